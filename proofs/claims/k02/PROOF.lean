import PyProof.Rows.All
import Wide.All
import OpenK.AllK
import Wide.FinOn
import HandS.ForMost
import HandS.Exc
import HandS.TryOnly
import HandS.ExcOwn
import HandS.Lambda
import HandS.Wide
import HandS.HotCalls
import HandS.RevRange
import HandS.TupAny
import HandS.TupMul
import HandS.Style
import HandS.IsInst
import HandS.TupSets
import HandS.Strs
import HandS.SortInts
import HandS.ExcIs
import HandS.Defaults
import HandS.Words
import HandS.HeadHook4
import KE.KStateDown
import HandS.Head0
import HandS.Head1
import HandS.Head2
import HandS.Zip
import HandS.SetFor
import HandS.Comp
import HandS.HeadHook1
import HandS.HeadEnd
import HandS.HeadWalk
import PySem.Challenge.RW_speedsopen_k02_whole_walks_with_known_pa
section
set_option Elab.async false
set_option linter.all false
set_option maxRecDepth 100000
set_option maxHeartbeats 4000000
namespace Pv
open PySem PySem.Spec PyProof.Rows L2

/-- plain data; ob n: the n-th changing object -/
inductive D where
  | non | bl (b : Bool) | int (i : Int) | str (x : Str) | tup (xs : List D) | lst (xs : List D) | ob (n : Nat) | scr (ns : List Int)
deriving Inhabited

/-- a changing object: a list, an instance of class c -/
inductive Cell where
  | lst (xs : List D)
  | ins (c : Nat) (fs : List (Str × D))

/-- what the top tells: the written part, the classes, the tables of code objects -/
structure Wd where
  K : PySem.W.Frag
  cl : Nat → Addr
  T : List (Addr × Str)

section
variable (G : Wd)
/-- a list that is never written again -/
def Fz (H : Hp) (a : Addr) (xs : List V) : Prop := ∃ o, H a = some (.frz o (.lst xs))
theorem Fz.sq {K : PySem.W.Frag} {H : Hp} {a : Addr} {xs : List V} (h : Fz H a xs) : SqL K H a xs := .inl (.inr h)

/-- the script's list: written no more, or of the written part -/
def Scr (K : PySem.W.Frag) (H : Hp) (a : Addr) (xs : List V) : Prop := (∃ o, H a = some (.frz o (.lst xs))) ∨ ∃ (o : Obj) (its : Array Value) (n : Nat), K.lookup a = some o ∧ o.cls = .type "list" ∧ o.dict = none ∧ o.data = .seq its n ∧ its.size ≤ sizeLine ∧ Vals xs its.toList
theorem Scr.sq {K : PySem.W.Frag} {H : Hp} {a : Addr} {xs : List V} (h : Scr K H a xs) : SqL K H a xs := h.elim (fun h => .inl (.inr h)) .inr
mutual
inductive Rel (μ : List Addr) (H : Hp) : V → D → Prop
  | non : Rel μ H .non .non
  | bl (b : Bool) : Rel μ H (.bl b) (.bl b)
  | int (i : Int) : Rel μ H (.int i) (.int i)
  | str (x : Str) : Rel μ H (.str x) (.str x)
  | tup {a : Addr} {xs : List V} {ds : List D} : SqT G.K H a xs → RelL μ H xs ds → Rel μ H (.ref a) (.tup ds)
  | lst {a : Addr} {xs : List V} {ds : List D} : Fz H a xs → RelL μ H xs ds → Rel μ H (.ref a) (.lst ds)
  | ob {a : Addr} {n : Nat} : μ[n]? = some a → Rel μ H (.ref a) (.ob n)
  | scr {a : Addr} {ns : List Int} : Scr G.K H a (ns.map V.int) → Rel μ H (.ref a) (.scr ns)
inductive RelL (μ : List Addr) (H : Hp) : List V → List D → Prop
  | nil : RelL μ H [] []
  | cons {v : V} {vs : List V} {d : D} {ds : List D} : Rel μ H v d → RelL μ H vs ds → RelL μ H (v :: vs) (d :: ds)
end

/-- tuples and written lists stand for ever -/
structure Keep (H H' : Hp) : Prop where
  tup : ∀ a xs, H a = some (.tup xs) → H' a = some (.tup xs)
  frz : ∀ a o u, H a = some (.frz o u) → H' a = some (.frz o u)
theorem Keep.refl (H : Hp) : Keep H H := ⟨fun _ _ h => h, fun _ _ _ h => h⟩
theorem Keep.trans {H H1 H2 : Hp} (a : Keep H H1) (b : Keep H1 H2) : Keep H H2 := ⟨fun x y h => b.tup x y (a.tup x y h), fun x y z h => b.frz x y z (a.frz x y z h)⟩
theorem Keep.of {H H' : Hp} (s : ∀ b o, H b = some o → H' b = some o) : Keep H H' := ⟨fun a xs h => s a _ h, fun a o u h => s a _ h⟩
theorem Keep.sqT {K : PySem.W.Frag} {H H' : Hp} (k : Keep H H') {a : Addr} {xs : List V} (h : SqT K H a xs) : SqT K H' a xs := by
  rcases h with (h | ⟨o, h⟩) | h
  · exact .inl (.inl (k.tup _ _ h))
  · exact .inl (.inr ⟨o, k.frz _ _ _ h⟩)
  · exact .inr h
theorem Keep.fz {H H' : Hp} (k : Keep H H') {a : Addr} {xs : List V} (h : Fz H a xs) : Fz H' a xs := h.elim fun o h => ⟨o, k.frz _ _ _ h⟩

theorem Keep.scr {K : PySem.W.Frag} {H H' : Hp} (k : Keep H H') {a : Addr} {xs : List V} (h : Scr K H a xs) : Scr K H' a xs := h.elim (fun ⟨o, h⟩ => .inl ⟨o, k.frz _ _ _ h⟩) .inr
theorem pre_get {μ μ' : List Addr} (p : μ <+: μ') {n : Nat} {a : Addr} (h : μ[n]? = some a) : μ'[n]? = some a := by
  obtain ⟨t, rfl⟩ := p
  have hl : n < μ.length := (List.getElem?_eq_some_iff.mp h).1
  rw [List.getElem?_append_left hl]
  exact h

variable {G}
variable {μ μ' : List Addr} {H H' : Hp}
mutual
theorem Rel.mono (p : μ <+: μ') (k : Keep H H') : ∀ (d : D) (v : V), Rel G μ H v d → Rel G μ' H' v d
  | .non, _, .non => .non
  | .bl _, _, .bl b => .bl b
  | .int _, _, .int i => .int i
  | .str _, _, .str x => .str x
  | .tup ds, _, .tup h r => .tup (k.sqT h) (RelL.mono p k ds _ r)
  | .lst ds, _, .lst h r => .lst (k.fz h) (RelL.mono p k ds _ r)
  | .ob _, _, .ob h => .ob (pre_get p h)
  | .scr _, _, .scr h => .scr (k.scr h)
theorem RelL.mono (p : μ <+: μ') (k : Keep H H') : ∀ (ds : List D) (vs : List V), RelL G μ H vs ds → RelL G μ' H' vs ds
  | [], _, .nil => .nil
  | d :: ds, _, .cons r t => .cons (Rel.mono p k d _ r) (RelL.mono p k ds _ t)
end

theorem RelL.length : ∀ {vs : List V} {ds : List D}, RelL G μ H vs ds → vs.length = ds.length
  | _, _, .nil => rfl
  | _, _, .cons _ t => by rw [List.length_cons, List.length_cons, RelL.length t]
theorem RelL.append : ∀ {vs ws : List V} {ds es : List D}, RelL G μ H vs ds → RelL G μ H ws es → RelL G μ H (vs ++ ws) (ds ++ es)
  | _, _, _, _, .nil, s => s
  | _, _, _, _, .cons r t, s => .cons r (RelL.append t s)
theorem RelL.get : ∀ {vs : List V} {ds : List D} {i : Nat} {d : D}, RelL G μ H vs ds → ds[i]? = some d → ∃ v, vs[i]? = some v ∧ Rel G μ H v d
  | _, _, _, _, .nil, e => by simp at e
  | _, _, 0, _, .cons r _, e => by simp at e; subst e; exact ⟨_, rfl, r⟩
  | _, _, i + 1, d, .cons _ t, e => by
    obtain ⟨u, h1, h2⟩ := RelL.get (i := i) (d := d) t (by simpa using e)
    exact ⟨u, by simpa using h1, h2⟩
theorem RelL.get' : ∀ {vs : List V} {ds : List D} {i : Nat} {v : V}, RelL G μ H vs ds → vs[i]? = some v → ∃ d, ds[i]? = some d ∧ Rel G μ H v d
  | _, _, _, _, .nil, e => by simp at e
  | _, _, 0, _, .cons r _, e => by simp at e; subst e; exact ⟨_, rfl, r⟩
  | _, _, i + 1, d, .cons _ t, e => by
    obtain ⟨u, h1, h2⟩ := RelL.get' (i := i) (v := d) t (by simpa using e)
    exact ⟨u, by simpa using h1, h2⟩
theorem RelL.take : ∀ {vs : List V} {ds : List D} (n : Nat), RelL G μ H vs ds → RelL G μ H (vs.take n) (ds.take n)
  | _, _, 0, _ => .nil
  | _, _, _ + 1, .nil => .nil
  | _, _, n + 1, .cons r t => .cons r (RelL.take n t)
theorem RelL.drop : ∀ {vs : List V} {ds : List D} (n : Nat), RelL G μ H vs ds → RelL G μ H (vs.drop n) (ds.drop n)
  | _, _, 0, r => r
  | _, _, _ + 1, .nil => .nil
  | _, _, n + 1, .cons _ t => RelL.drop n t
theorem RelL.set {v : V} {d : D} (r : Rel G μ H v d) : ∀ {vs : List V} {ds : List D} (i : Nat), RelL G μ H vs ds → RelL G μ H (vs.set i v) (ds.set i d)
  | _, _, _, .nil => .nil
  | _, _, 0, .cons _ t => .cons r t
  | _, _, i + 1, .cons q t => .cons q (RelL.set r i t)
theorem RelL.eraseIdx : ∀ {vs : List V} {ds : List D} (i : Nat), RelL G μ H vs ds → RelL G μ H (vs.eraseIdx i) (ds.eraseIdx i)
  | _, _, _, .nil => .nil
  | _, _, 0, .cons _ t => t
  | _, _, i + 1, .cons r t => .cons r (RelL.eraseIdx i t)
theorem RelL.dropLast : ∀ {vs : List V} {ds : List D}, RelL G μ H vs ds → RelL G μ H vs.dropLast ds.dropLast
  | _, _, .nil => .nil
  | _, _, .cons _ .nil => .nil
  | _, _, .cons r (.cons r2 t) => .cons r (RelL.dropLast (.cons r2 t))
theorem RelL.reverse {vs : List V} {ds : List D} (h : RelL G μ H vs ds) : RelL G μ H vs.reverse ds.reverse := by
  induction vs generalizing ds with
  | nil => cases h; exact .nil
  | cons v vs ih =>
    cases h with
    | cons r t => rw [List.reverse_cons, List.reverse_cons]; exact (ih t).append (.cons r .nil)
theorem RelL.rep {vs : List V} {ds : List D} (h : RelL G μ H vs ds) : ∀ k : Nat, RelL G μ H (List.replicate k vs).flatten (List.replicate k ds).flatten
  | 0 => .nil
  | k + 1 => by
    rw [List.replicate_succ, List.replicate_succ, List.flatten_cons, List.flatten_cons]
    exact h.append (RelL.rep h k)
theorem RelL.get?_none : ∀ {vs : List V} {ds : List D} {i : Nat}, RelL G μ H vs ds → ds[i]? = none → vs[i]? = none := fun {vs ds i} r e => by
  have h1 := r.length
  have h2 : ds.length ≤ i := List.getElem?_eq_none_iff.mp e
  exact List.getElem?_eq_none_iff.mpr (by omega)
theorem RelL.map {α : Type} {f : α → V} {g : α → D} (h : ∀ a, Rel G μ H (f a) (g a)) : ∀ l : List α, RelL G μ H (l.map f) (l.map g)
  | [] => .nil
  | a :: l => .cons (h a) (RelL.map h l)
end

mutual
def D.py : D → Option PyData
  | .non => some .none
  | .bl b => some (.bool b)
  | .int i => some (.int i)
  | .str x => some (.str x)
  | .tup xs => (D.pyL xs).map .tuple
  | .lst xs => (D.pyL xs).map .list
  | .ob _ => none
  | .scr _ => none
def D.pyL : List D → Option (List PyData)
  | [] => some []
  | x :: xs => (D.py x).bind fun a => (D.pyL xs).map fun b => a :: b
end
section
variable {G : Wd} {μ : List Addr} {H : Hp}
mutual
theorem Rel.dp : ∀ (d : D) (v : V) (p : PyData), Rel G μ H v d → d.py = some p → Dp G.K H v p
  | .non, _, _, .non, e => by simp only [D.py, Option.some.injEq] at e; subst e; exact .non
  | .bl _, _, _, .bl b, e => by simp only [D.py, Option.some.injEq] at e; subst e; exact .bl b
  | .int _, _, _, .int i, e => by simp only [D.py, Option.some.injEq] at e; subst e; exact .int i
  | .str _, _, _, .str x, e => by simp only [D.py, Option.some.injEq] at e; subst e; exact .str x
  | .tup ds, _, p, .tup h r, e => by
    simp only [D.py, Option.map_eq_some_iff] at e
    obtain ⟨l, e, rfl⟩ := e
    exact .tup h (RelL.dp ds _ l r e)
  | .lst ds, _, p, .lst h r, e => by
    simp only [D.py, Option.map_eq_some_iff] at e
    obtain ⟨l, e, rfl⟩ := e
    exact .lst h.sq (RelL.dp ds _ l r e)
  | .ob _, _, _, .ob h, e => by simp [D.py] at e
  | .scr _, _, _, .scr h, e => by simp [D.py] at e
theorem RelL.dp : ∀ (ds : List D) (vs : List V) (l : List PyData), RelL G μ H vs ds → D.pyL ds = some l → DpAll G.K H vs l
  | [], _, _, .nil, e => by simp only [D.pyL, Option.some.injEq] at e; subst e; exact .nil
  | d :: ds, _, _, .cons r t, e => by
    simp only [D.pyL, Option.bind_eq_some_iff, Option.map_eq_some_iff] at e
    obtain ⟨a, ea, b, eb, rfl⟩ := e
    exact .cons (Rel.dp d _ a r ea) (RelL.dp ds _ b t eb)
end
end

inductive Sl where
  | no | sh (d : D) | ow (ds : List D)
abbrev Ro := List Sl
abbrev So := List Cell

section
variable (G : Wd)
def CellAt (μ : List Addr) (H : Hp) (a : Addr) : Cell → Prop
  | .lst ds => ∃ vs, H a = some (.lst vs) ∧ RelL G μ H vs ds
  | .ins c fs => ∃ dx vs, H a = some (.ins (G.cl c) dx (fs.map (·.1) |>.zip vs)) ∧ RelL G μ H vs (fs.map (·.2))
structure Cells (μ : List Addr) (H : Hp) (S : So) : Prop where
  len : μ.length = S.length
  nd : μ.Nodup
  at_ : ∀ (n : Nat) (a : Addr) (c : Cell), μ[n]? = some a → S[n]? = some c → CellAt G μ H a c
/-- what a call leaves of the heap -/
structure Frm (μ : List Addr) (H H' : Hp) : Prop where
  stay : ∀ b o, H b = some o → b ∉ μ → (∀ ps, o ≠ .tbl ps) → H' b = some o
  tbl : ∀ b ps, H b = some (.tbl ps) → ∃ more, H' b = some (.tbl (ps ++ more))
/-- the state of a frame: the slots; the changing objects; what stood at the entry (H0, μ0) stands -/
structure Jn (μ0 : List Addr) (H0 : Hp) (μ : List Addr) (σ : L2.St) (H : Hp) (ρ : Ro) (S : So) : Prop where
  len : ρ.length = σ.length
  sh : ∀ (i : Nat) (d : D), ρ[i]? = some (.sh d) → ∃ v, σ[i]? = some (some v) ∧ Rel G μ H v d
  ow : ∀ (i : Nat) (ds : List D), ρ[i]? = some (.ow ds) → ∃ p vs, σ[i]? = some (some (.ref p)) ∧ H p = some (.lst vs) ∧ RelL G μ H vs ds ∧ p ∉ μ ∧ H0 p = none ∧ ∀ (j : Nat) (es : List D), ρ[j]? = some (.ow es) → σ[j]? = some (some (.ref p)) → j = i
  cells : Cells G μ H S
  tabs : LamX.Tabs G.T H
  pre : μ0 <+: μ
  new : ∀ a, a ∈ μ → a ∉ μ0 → H0 a = none
  frm : Frm μ0 H0 H
end
section
variable {G : Wd} {μ0 μ : List Addr} {H0 H H' : Hp} {σ : L2.St} {ρ : Ro} {S : So}
theorem CellAt.lst_or {a : Addr} {c : Cell} (x : CellAt G μ H a c) : (∃ vs, H a = some (.lst vs)) ∨ ∃ C dx fs, H a = some (.ins C dx fs) := by
  cases c with
  | lst ds => obtain ⟨vs, h, _⟩ := x; exact .inl ⟨vs, h⟩
  | ins c fs => obtain ⟨dx, vs, h, _⟩ := x; exact .inr ⟨_, dx, _, h⟩
theorem Cells.mem {S : So} (c : Cells G μ H S) {a : Addr} (h : a ∈ μ) : (∃ vs, H a = some (.lst vs)) ∨ ∃ C dx fs, H a = some (.ins C dx fs) := by
  obtain ⟨n, hn⟩ := List.mem_iff_getElem?.mp h
  have hl : n < μ.length := (List.getElem?_eq_some_iff.mp hn).1
  obtain ⟨x, hx⟩ : ∃ x, S[n]? = some x := ⟨S[n]'(by rw [← c.len]; exact hl), List.getElem?_eq_getElem _⟩
  exact (c.at_ n a x hn hx).lst_or
/-- what is tuple or written is no changing object -/
theorem Cells.tupN {S : So} (c : Cells G μ H S) {a : Addr} {xs : List V} (h : H a = some (.tup xs)) : a ∉ μ := fun z => by
  rcases c.mem z with ⟨vs, e⟩ | ⟨C, dx, fs, e⟩ <;> (rw [h] at e; cases e)
theorem Cells.frzN {S : So} (c : Cells G μ H S) {a : Addr} {o : Obj} {u : HO} (h : H a = some (.frz o u)) : a ∉ μ := fun z => by
  rcases c.mem z with ⟨vs, e⟩ | ⟨C, dx, fs, e⟩ <;> (rw [h] at e; cases e)
theorem Frm.keep {S : So} (f : Frm μ H H') (c : Cells G μ H S) : Keep H H' :=
  ⟨fun a xs h => f.stay a _ h (c.tupN h) (fun _ z => by cases z), fun a o u h => f.stay a _ h (c.frzN h) (fun _ z => by cases z)⟩
theorem Frm.refl : Frm μ H H := ⟨fun _ _ h _ _ => h, fun b ps h => ⟨#[], by simpa using h⟩⟩
theorem Frm.same (s : ∀ b o, H b = some o → H' b = some o) : Frm μ H H' := ⟨fun b o h _ _ => s b o h, fun b ps h => ⟨#[], by simpa using s _ _ h⟩⟩
theorem Frm.tblSame {H2 : Hp} (f : Frm μ H H') (s : ∀ b o, H' b = some o → H2 b = some o) : Frm μ H H2 :=
  ⟨fun b o h1 h2 h3 => s _ _ (f.stay b o h1 h2 h3), fun b ps h => let ⟨m, e⟩ := f.tbl b ps h; ⟨m, s _ _ e⟩⟩

abbrev Same (H H' : Hp) : Prop := ∀ b o, H b = some o → H' b = some o
theorem Same.keep {H H' : Hp} (s : Same H H') : Keep H H' := Keep.of s
theorem Same.upd {H : Hp} {p : Addr} {o : HO} (h : H p = none) : Same H (upd H p o) := fun b u e => by
  rw [upd_ne (ne_of_none e h)]; exact e
theorem Same.trans {H H1 H2 : Hp} (a : Same H H1) (b : Same H1 H2) : Same H H2 := fun x o h => b x o (a x o h)
theorem Same.rfl' {H : Hp} : Same H H := fun _ _ h => h

theorem CellAt.same (s : Same H H') {a : Addr} {c : Cell} (x : CellAt G μ H a c) : CellAt G μ H' a c := by
  cases c with
  | lst ds => obtain ⟨vs, h, r⟩ := x; exact ⟨vs, s _ _ h, RelL.mono (List.prefix_refl _) s.keep _ _ r⟩
  | ins c fs => obtain ⟨dx, vs, h, r⟩ := x; exact ⟨dx, vs, s _ _ h, RelL.mono (List.prefix_refl _) s.keep _ _ r⟩
theorem Cells.same (s : Same H H') (c : Cells G μ H S) : Cells G μ H' S := ⟨c.len, c.nd, fun n a x h1 h2 => (c.at_ n a x h1 h2).same s⟩
/-- new objects laid: all stays -/
theorem Jn.same (J : Jn G μ0 H0 μ σ H ρ S) (s : Same H H') : Jn G μ0 H0 μ σ H' ρ S where
  len := J.len
  sh := fun i d e => let ⟨v, h1, h2⟩ := J.sh i d e; ⟨v, h1, Rel.mono (List.prefix_refl _) s.keep _ _ h2⟩
  ow := fun i ds e => let ⟨p, vs, h1, h2, h3, h4⟩ := J.ow i ds e; ⟨p, vs, h1, s _ _ h2, RelL.mono (List.prefix_refl _) s.keep _ _ h3, h4⟩
  cells := J.cells.same s
  tabs := J.tabs.ext s
  pre := J.pre
  new := J.new
  frm := J.frm.tblSame s
/-- a call has run -/
structure Ran (G : Wd) (μ : List Addr) (H : Hp) (μ' : List Addr) (H' : Hp) (S' : So) : Prop where
  pre : μ <+: μ'
  new : ∀ a, a ∈ μ' → a ∉ μ → H a = none
  frm : Frm μ H H'
  cells : Cells G μ' H' S'
  tabs : LamX.Tabs G.T H'
theorem Jn.ran {μ' : List Addr} {S' : So} (J : Jn G μ0 H0 μ σ H ρ S) (r : Ran G μ H μ' H' S') : Jn G μ0 H0 μ' σ H' ρ S' := by
  have k : Keep H H' := r.frm.keep J.cells
  refine ⟨J.len, fun i d e => ?_, fun i ds e => ?_, r.cells, r.tabs, J.pre.trans r.pre, fun a h1 h2 => ?_, ⟨fun b o h1 h2 h3 => ?_, fun b ps h => ?_⟩⟩
  · obtain ⟨v, h1, h2⟩ := J.sh i d e
    exact ⟨v, h1, Rel.mono r.pre k _ _ h2⟩
  · obtain ⟨p, vs, h1, h2, h3, h4, h5, h6⟩ := J.ow i ds e
    refine ⟨p, vs, h1, r.frm.stay p _ h2 h4 (fun _ z => by cases z), RelL.mono r.pre k _ _ h3, fun z => ?_, h5, h6⟩
    have := r.new p z h4
    rw [h2] at this; cases this
  · by_cases hm : a ∈ μ
    · exact J.new a hm h2
    · have := r.new a h1 hm
      cases q : H0 a with
      | none => rfl
      | some o =>
        by_cases ht : ∃ ps, o = .tbl ps
        · obtain ⟨ps, rfl⟩ := ht
          obtain ⟨m, e⟩ := J.frm.tbl a ps q
          rw [‹H a = none›] at e; cases e
        · have := J.frm.stay a o q h2 (fun ps z => ht ⟨ps, z⟩)
          rw [‹H a = none›] at this; cases this
  · have h4 := J.frm.stay b o h1 h2 h3
    by_cases hm : b ∈ μ
    · have := J.new b hm h2
      rw [h1] at this; cases this
    · exact r.frm.stay b o h4 hm h3
  · obtain ⟨m, e⟩ := J.frm.tbl b ps h
    obtain ⟨m2, e2⟩ := r.frm.tbl b _ e
    exact ⟨m ++ m2, by rw [e2, Array.append_assoc]⟩
end
end Pv
end
section
set_option Elab.async false
set_option linter.all false
set_option maxRecDepth 100000
set_option maxHeartbeats 4000000
namespace Pv
open PySem

inductive BOp where | add | sub | mul | fdiv | mod
deriving DecidableEq
inductive COp where | eq | ne | lt | le | gt | ge | inn | nin
deriving DecidableEq
/-- built-in functions and classes that are called with values -/
inductive Blt where | len | abs | max | min | all | any | sum | tuple | list | int | str | bool
deriving DecidableEq
/-- classes that isinstance asks -/
inductive Ty where | int | bool | tuple | str | list
deriving DecidableEq
/-- methods of built-in values -/
inductive Met where | split | join | index
deriving DecidableEq

mutual
inductive E where
  | vr (i : Nat) | fz (i : Nat)
  | non | bl (b : Bool) | int (i : Int) | str (s : Str)
  | gl (g : Nat)
  | tup (es : Es) | lst (es : Es)
  | bin (o : BOp) (a b : E) | pow (a b : Int) | neg (a : E)
  | cmp (o : COp) (a b : E) | chn (o1 o2 : COp) (a b c : E)
  | isn (neg : Bool) (a : E) | isb (neg : Bool) (a : E) (b : Bool)
  | and (a b : E) | or (a b : E) | one (a : E) | not (a : E)
  | ife (c a b : E)
  | ix (a i : E) | ixo (n : Nat) (i : E) | leno (n : Nat) | emo (neg : Bool) (n : Nat) | tupo (n : Nat)
  | sl (a : E) (lo hi : EO) | rv (a : E)
  | call (f : Nat) (es : Es)
  | blt (b : Blt) (es : Es) | sst (e : E) | sln (e : E)
  | isi (a : E) (t : Ty)
  | met (m : Met) (a : E) (es : Es)
  | comp (own : List Nat) (elt : E) (tg : Tg) (it : It) (cond : EO)
  | callo (f : Nat) (es : Es)
  | popc (n : Nat) | newc (e : E) | emc (neg : Bool) (n : Nat)
  | app (n : Nat) (a : E)
  | inr (neg : Bool) (a : E) (lo hi : Int) | err (f : Nat) (es : Es) | idx (a b : E)
inductive Es where | nil | cons (e : E) (es : Es)
inductive EO where | non | som (e : E)
inductive It where | seq (e : E) | rng (e : E) | rng2 (a b : E) | enm (e : E) | zip (a b : E)
inductive Tg where | nm (i : Nat) | tp (ts : Tgs)
inductive Tgs where | nil | cons (t : Tg) (ts : Tgs)
end
mutual
inductive S where
  | ex (e : E) | set (t : Tg) (e : E) | own (i : Nat) (e : E) | par (i j : Nat) (oi oj : Bool) (a b : E) | par3 (i j l : Nat) (oi : Bool) (a b c : E)
  | sti (i : Nat) (k : E) (e : E)
  | ret (e : E) | retf (e : E) | reto (i : Nat) | retn | ite (c : E) (a b : Ss) | for_ (t : Tg) (it : It) (b : Ss) | whl (c : E) (b : Ss)
  | pass | brk | raise (x : Nat)
inductive Ss where | nil | cons (s : S) (ss : Ss)
end

mutual
def Tg.sl : Tg → List Nat
  | .nm i => [i]
  | .tp ts => Tgs.sl ts
def Tgs.sl : Tgs → List Nat
  | .nil => []
  | .cons t ts => Tg.sl t ++ Tgs.sl ts
end

inductive Out (α : Type) where | ok (a : α) (ρ : Ro) (s : So) | ex (c : Nat) (ρ : Ro) (s : So) | bad
inductive FR where | ok (d : D) (s : So) | own (xs : List D) (s : So) | ex (c : Nat) (s : So) | bad
abbrev M (α : Type) := Ro → So → Out α
def M.pure {α : Type} (a : α) : M α := fun ρ s => .ok a ρ s
def M.bind {α β : Type} (m : M α) (f : α → M β) : M β := fun ρ s => match m ρ s with
  | .ok a ρ1 s1 => f a ρ1 s1
  | .ex c ρ1 s1 => .ex c ρ1 s1
  | .bad => .bad
def M.of {α : Type} (o : Option α) : M α := fun ρ s => match o with | some a => .ok a ρ s | none => .bad
/-- k of what came out, e of an exception -/
def Out.post {α : Type} (k : α → Ro → So → Prop) (e : Nat → Ro → So → Prop) : Out α → Prop
  | .ok a ρ s => k a ρ s
  | .ex c ρ s => e c ρ s
  | .bad => False
theorem post_bind {α β : Type} {m : M α} {f : α → M β} {ρ : Ro} {s : So} {k : β → Ro → So → Prop} {e : Nat → Ro → So → Prop} (h : (m.bind f ρ s).post k e) : (m ρ s).post (fun a ρ1 s1 => (f a ρ1 s1).post k e) e := by
  unfold M.bind at h
  cases q : m ρ s with
  | ok a ρ1 s1 => rw [q] at h; exact h
  | ex c ρ1 s1 => rw [q] at h; exact h
  | bad => rw [q] at h; exact h
theorem post_of {α : Type} {o : Option α} {ρ : Ro} {s : So} {k : α → Ro → So → Prop} {e : Nat → Ro → So → Prop} (h : (M.of o ρ s).post k e) : ∃ a, o = some a ∧ k a ρ s := by
  cases o with
  | none => exact h.elim
  | some a => exact ⟨a, rfl, h⟩
theorem Out.post.imp {α : Type} {o : Out α} {k k' : α → Ro → So → Prop} {e e' : Nat → Ro → So → Prop} (h : o.post k e) (hk : ∀ a ρ s, k a ρ s → k' a ρ s) (he : ∀ c ρ s, e c ρ s → e' c ρ s) : o.post k' e' := by
  cases o with
  | ok a ρ s => exact hk _ _ _ h
  | ex c ρ s => exact he _ _ _ h
  | bad => exact h

def lim : Nat := 16777216
def b2n (b : Bool) : Int := if b then 1 else 0
def okMul (i j : Int) : Bool := decide (i.natAbs.log2 + j.natAbs.log2 < 1000000)
def okDiv (j : Int) : Bool := decide (0 < j) && decide (j.natAbs.log2 < 9000)
def repS (k : Nat) (x : Str) : Str := ⟨(List.replicate k x.cps.toList).flatten.toArray⟩
def binD : BOp → D → D → Option D
  | .add, .int i, .int j => some (.int (i + j))
  | .add, .tup xs, .tup ys => if xs.length + ys.length ≤ lim then some (.tup (xs ++ ys)) else none
  | .add, .lst xs, .lst ys => if xs.length + ys.length ≤ lim then some (.lst (xs ++ ys)) else none
  | .add, .str a, .str b => if a.length + b.length ≤ lim then some (.str (a ++ b)) else none
  | .add, .bl i, .int j => some (.int (b2n i + j))
  | .sub, .bl i, .int j => some (.int (b2n i - j))
  | .sub, .int i, .int j => some (.int (i - j))
  | .sub, .bl i, .bl j => some (.int (b2n i - b2n j))
  | .mul, .int i, .int j => if okMul i j then some (.int (i * j)) else none
  | .mul, .lst xs, .int k => if k < 1000 ∧ xs.length * k.toNat ≤ lim ∧ -1000 < k then some (.lst (List.replicate k.toNat xs).flatten) else none
  | .mul, .tup xs, .int k => if k < 1000 ∧ xs.length ≤ 1000 ∧ 2 ≤ k ∧ 0 < xs.length then some (.tup (List.replicate k.toNat xs).flatten) else none
  | .fdiv, .int i, .int j => if okDiv j then some (.int (i / j)) else if j ≠ 0 ∧ j.natAbs < 1073741824 then some (.int (i.fdiv j)) else none
  | .mod, .int i, .int j => if 0 < j then some (.int (i % j)) else none
  | _, _, _ => none
def powD (i j : Int) : Option D := if 0 ≤ j ∧ j ≤ 1000 ∧ i.natAbs < 1000 then some (.int (i ^ j.toNat)) else none
def negD : D → Option D
  | .int i => some (.int (-i))
  | _ => none
/-- == of data -/
def eqD (a b : D) : Option Bool := match a.py, b.py with
  | some x, some y => if SeqAt.shaped x && SeqAt.shaped y then some (PyData.eqv x y) else none
  | _, _ => none
def flatD : D → Bool
  | .non | .bl _ | .int _ | .str _ => true
  | _ => false
/-- == of flat data -/
def eqF : D → D → Bool
  | .non, .non => true
  | .bl a, .bl b => a == b
  | .bl a, .int j => (if a then 1 else 0) == j
  | .int i, .bl b => i == (if b then 1 else 0)
  | .int i, .int j => i == j
  | .str x, .str y => x == y
  | _, _ => false
def inD (a : D) (xs : List D) : Bool := xs.any fun y => eqF y a
def intsOf : List D → Option (List Int)
  | [] => some []
  | .int i :: r => (intsOf r).map fun l => i :: l
  | _ :: _ => none
def blsOf : List D → Option (List Bool)
  | [] => some []
  | .bl i :: r => (blsOf r).map fun l => i :: l
  | _ :: _ => none
def strsOf : List D → Option (List Str)
  | [] => some []
  | .str i :: r => (strsOf r).map fun l => i :: l
  | _ :: _ => none
def cmpD : COp → D → D → Option Bool
  | .eq, a, b => eqD a b
  | .ne, a, b => (eqD a b).map fun x => !x
  | .lt, .int i, .int j => some (decide (i < j))
  | .le, .int i, .int j => some (decide (i ≤ j))
  | .gt, .int i, .int j => some (decide (j < i))
  | .ge, .int i, .int j => some (decide (j ≤ i))
  | .lt, .tup xs, .tup ys => match intsOf xs, intsOf ys with
    | some a, some b => some (HT.lexLt a b)
    | _, _ => none
  | .inn, .str a, .str b => some (!(Builtin.Str.occurrences b a 0 b.length 1).isEmpty)
  | .inn, a, .tup ys => if flatD a && ys.all flatD then some (inD a ys) else none
  | .inn, a, .lst ys => if flatD a && ys.all flatD then some (inD a ys) else none
  | .nin, a, .tup ys => if flatD a && ys.all flatD then some (!inD a ys) else none
  | .nin, a, .lst ys => if flatD a && ys.all flatD then some (!inD a ys) else none
  | _, _, _ => none
def asB : D → Option Bool
  | .bl b => some b
  | _ => none
def asI : D → Option Int
  | .int i => some i
  | _ => none
/-- what a for walks -/
def asSeq : D → Option (List D)
  | .tup xs => some xs
  | .lst xs => some xs
  | _ => none
def asLst : D → Option (List D)
  | .lst xs => some xs
  | _ => none
def ixD : D → D → Option D
  | .tup xs, .int i => L2.atI xs i
  | .lst xs, .int i => L2.atI xs i
  | .scr ns, .int i => (L2.atI ns i).map .int
  | .str z, .int i => if z.length ≤ lim then (L2.atI z.cps.toList i).map fun c => .str ⟨#[c]⟩ else none
  | _, _ => none
def cutL (xs : List D) (lo hi : Option Int) : List D := (xs.drop (HT.sIx xs.length 0 lo)).take (HT.sIx xs.length xs.length hi - HT.sIx xs.length 0 lo)
def slD : D → Option Int → Option Int → Option D
  | .tup xs, lo, hi => some (.tup (cutL xs lo hi))
  | .lst xs, lo, hi => some (.lst (cutL xs lo hi))
  | _, _, _ => none
def rvD : D → Option D
  | .tup xs => some (.tup xs.reverse)
  | _ => none
def tyD : D → Option Ty
  | .bl _ => some .bool
  | .int _ => some .int
  | .str _ => some .str
  | .tup _ => some .tuple
  | .lst _ => some .list
  | _ => none
def isiD (a : D) (t : Ty) : Option Bool := match a with
  | .non => some false
  | .ob _ => none
  | .scr _ => none
  | .bl _ => some (decide (t = .bool) || decide (t = .int))
  | a => some (decide (tyD a = some t))
def insI (i : Int) : List Int → List Int
  | [] => [i]
  | j :: r => if i < j then i :: j :: r else if i = j then j :: r else j :: insI i r
/-- sorted(set(ints)) -/
def ssI (l : List Int) : List Int := l.foldr insI []
def lexLE (a b : List Int) : Bool := !HT.lexLt b a
def insL (i : List Int) : List (List Int) → List (List Int)
  | [] => [i]
  | j :: r => if HT.lexLt i j then i :: j :: r else if i = j then j :: r else j :: insL i r
def ssL (l : List (List Int)) : List (List Int) := l.foldr insL []
def tupsOf : List D → Option (List (List Int))
  | [] => some []
  | .tup xs :: r => (intsOf xs).bind fun x => (tupsOf r).map fun l => x :: l
  | _ :: _ => none
/-- the rows that set and sorted take: few, of one width, of ints from 0 to below B -/
def okRows (ls : List (List Int)) : Bool := decide (ls.length < 64) && ls.all fun r => decide (r.length = 2) && r.all fun i => decide (0 ≤ i) && decide (i < 1000000000000000000)
def bltD : Blt → List D → Option D
  | .len, [.tup xs] => some (.int xs.length)
  | .len, [.scr ns] => some (.int ns.length)
  | .len, [.lst xs] => some (.int xs.length)
  | .len, [.str x] => if x.length ≤ lim then some (.int x.length) else none
  | .abs, [.int i] => some (.int (if i < 0 then -i else i))
  | .max, [.int i, .int j] => some (.int (if j > i then j else i))
  | .min, [.int i, .int j] => some (.int (if j < i then j else i))
  | .all, [.lst xs] => (blsOf xs).map fun l => .bl (l.all id)
  | .any, [.lst xs] => (blsOf xs).map fun l => .bl (l.any id)
  | .sum, [.lst xs] => (intsOf xs).map fun l => .int l.sum
  | .tuple, [.lst xs] => some (.tup xs)
  | .tuple, [.tup xs] => some (.tup xs)
  | .list, [.lst xs] => some (.lst xs)
  | .list, [.tup xs] => some (.lst xs)
  | .int, [.int i] => some (.int i)
  | .int, [.bl b] => some (.int (b2n b))
  | .bool, [.bl b] => some (.bl b)
  | .str, [.int i] => if i.natAbs.log2 < 1920 then some (.str (toString i)) else none
  | _, _ => none
/-- sorted(set(xs)) of few ints -/
def sstD : D → Option D
  | .lst xs => match intsOf xs with
    | some l => if l.length < 64 then some (.lst ((ssI l).map .int)) else none
    | none => none
  | _ => none
/-- len(set(xs)): no rule yet -/
def slnD : D → Option D := fun _ => none
/-- the place of the first item that is y -/
def idxD : D → D → Option D
  | .lst xs, y => if flatD y && xs.all flatD then (xs.findIdx? fun x => eqF x y).map fun j => .int (j : Nat) else none
  | _, _ => none
/-- what a caught error's class is called -/
def errN (c : Nat) : Option Str := match c with
  | 1 => some (Str.ofString "script value")
  | 2 => some (Str.ofString "pair value")
  | 3 => some (Str.ofString "paces value")
  | 4 => some (Str.ofString "walker value")
  | 5 => some (Str.ofString "number value")
  | 6 => some (Str.ofString "facts value")
  | 7 => some (Str.ofString "text value")
  | 8 => some (Str.ofString "ratio value")
  | 9 => some (Str.ofString "undo value")
  | _ => none
def metD : Met → D → List D → Option D
  | _, _, _ => none
def rng1 : D → Option (List D)
  | .int n => if -(2 ^ 62) ≤ n ∧ n < 2 ^ 62 then some ((List.range n.toNat).map fun i => .int (0 + (i : Nat))) else none
  | _ => none
def rng2 : D → D → Option (List D)
  | .int a, .int b => if -(2 ^ 62) ≤ a ∧ a < 2 ^ 62 ∧ -(2 ^ 62) ≤ b ∧ b < 2 ^ 62 then some ((List.range (b - a).toNat).map fun i => .int (a + (i : Nat))) else none
  | _, _ => none
def enmD : Nat → List D → List D
  | _, [] => []
  | i, x :: r => .tup [.int (i : Nat), x] :: enmD (i + 1) r
def zipD : List D → List D → List D
  | x :: xs, y :: ys => .tup [x, y] :: zipD xs ys
  | _, _ => []

def zipS : D → D → Option (List D)
  | .lst xs, .lst ys => some (zipD xs ys)
  | .tup xs, .tup ys => some (zipD xs ys)
  | _, _ => none

def getSh (i : Nat) : M D := fun ρ s => match ρ[i]? with
  | some (.sh d) => .ok d ρ s
  | _ => .bad
def getOw (i : Nat) : M (List D) := fun ρ s => match ρ[i]? with
  | some (.ow ds) => .ok ds ρ s
  | _ => .bad
/-- the list of a slot is written no more -/
def frzSl (i : Nat) : M D := fun ρ s => match ρ[i]? with
  | some (.ow ds) => .ok (.lst ds) (ρ.set i (.sh (.lst ds))) s
  | _ => .bad
def putSl (i : Nat) (x : Sl) : M Unit := fun ρ s => if i < ρ.length then .ok () (ρ.set i x) s else .bad
mutual
def asg : Tg → D → M Unit
  | .nm i, d => putSl i (.sh d)
  | .tp ts, d => (M.of (asSeq d)).bind fun ds => asgs ts ds
def asgs : Tgs → List D → M Unit
  | .nil, [] => M.pure ()
  | .cons t ts, d :: ds => (asg t d).bind fun _ => asgs ts ds
  | .nil, _ :: _ => fun _ _ => .bad
  | .cons _ _, [] => fun _ _ => .bad
end
def wipeR (ρ : Ro) : List Nat → Ro
  | [] => ρ
  | v :: vs => (wipeR ρ vs).set v .no
def backR (ρ0 ρ : Ro) : List Nat → Ro
  | [] => ρ
  | v :: vs => (backR ρ0 ρ vs).set v (ρ0.getD v .no)
def noOw (ρ : Ro) (vs : List Nat) : Bool := vs.all fun v => match ρ[v]? with
  | some (.ow _) => false
  | some _ => true
  | none => false
def tst (m : M D) : M Bool := m.bind fun d => M.of (asB d)
/-- what a name is to hold: a value, or a list of our own -/
def pit (o : Bool) (m : M D) : M Sl := m.bind fun d => match o, d with
  | false, d => M.pure (.sh d)
  | true, .lst xs => M.pure (.ow xs)
  | true, _ => fun _ _ => .bad
/-- a comprehension's turns; acc: what is made so far -/
def cLoop (own : List Nat) (st : D → M Unit) (c : M Bool) (x : M D) : List D → List D → M (List D)
  | [], acc => M.pure acc
  | d :: ds, acc => (st d).bind fun _ => c.bind fun b => if b then x.bind (fun y => if acc.length < lim then (fun ρ s => cLoop own st c x ds (acc ++ [y]) (wipeR ρ own) s) else fun _ _ => .bad) else fun ρ s => cLoop own st c x ds acc (wipeR ρ own) s
def compM (own : List Nat) (st : D → M Unit) (c : M Bool) (x : M D) (items : List D) : M D := fun ρ s =>
  if noOw ρ own then match cLoop own st c x items [] (wipeR ρ own) s with
    | .ok l ρ1 s1 => .ok (.lst l) (backR ρ ρ1 own) s1
    | _ => .bad
  else .bad
def callM (g : List D → So → FR) (ds : List D) : M D := fun ρ s => match g ds s with
  | .ok d s1 => .ok d ρ s1
  | .own xs s1 => .ok (.lst xs) ρ s1
  | .ex c s1 => .ex c ρ s1
  | .bad => .bad
/-- .. where a list of its own is handed back -/
def calloM (g : List D → So → FR) (ds : List D) : M D := fun ρ s => match g ds s with
  | .own xs s1 => .ok (.lst xs) ρ s1
  | .ex c s1 => .ex c ρ s1
  | _ => .bad
/-- nothing may come up -/
def noEx {α : Type} (m : M α) : M α := fun ρ s => match m ρ s with
  | .ok a ρ1 s1 => .ok a ρ1 s1
  | _ => .bad
/-- .. where what comes up is told by name -/
def errM (g : List D → So → FR) (ds : List D) : M D := fun ρ s => match g ds s with
  | .ok _ s1 => .ok (.str Str.empty) ρ s1
  | .own _ s1 => .ok (.str Str.empty) ρ s1
  | .ex c s1 => match errN c with
    | some nm => .ok (.str nm) ρ s1
    | none => .bad
  | .bad => .bad
/-- a list of our own becomes a changing object -/
def newM (d : D) : M D := fun ρ s => match d with
  | .lst xs => .ok (.ob s.length) ρ (s ++ [.lst xs])
  | _ => .bad
/-- pop(0) of a changing list -/
def popM (d : D) : M D := fun ρ s => match d with
  | .ob n => match s[n]? with
    | some (.lst (x :: xs)) => .ok x ρ (s.set n (.lst xs))
    | _ => .bad
  | _ => .bad
def celM (d : D) : M (List D) := fun ρ s => match d with
  | .ob n => match s[n]? with
    | some (.lst xs) => .ok xs ρ s
    | _ => .bad
  | _ => .bad

section
variable (F : Nat → List D → So → FR) (gl : Nat → Option D)
mutual
def ev : E → M D
  | .vr i => getSh i
  | .fz i => frzSl i
  | .non => M.pure .non
  | .bl b => M.pure (.bl b)
  | .int i => M.pure (.int i)
  | .str x => M.pure (.str x)
  | .gl g => M.of (gl g)
  | .tup es => (evs es).bind fun ds => if ds.length ≤ lim then M.pure (.tup ds) else fun _ _ => .bad
  | .lst es => (evs es).bind fun ds => if ds.length ≤ lim then M.pure (.lst ds) else fun _ _ => .bad
  | .bin o a b => (ev a).bind fun x => (ev b).bind fun y => M.of (binD o x y)
  | .pow i j => M.of (powD i j)
  | .neg a => (ev a).bind fun x => M.of (negD x)
  | .cmp o a b => (ev a).bind fun x => (ev b).bind fun y => M.of ((cmpD o x y).map .bl)
  | .chn o1 o2 a b c => (ev a).bind fun x => (ev b).bind fun y => (M.of (cmpD o1 x y)).bind fun t => if t then (ev c).bind fun z => M.of ((cmpD o2 y z).map .bl) else M.pure (.bl false)
  | .isn neg a => (ev a).bind fun x => M.pure (.bl (match x with | .non => !neg | _ => neg))
  | .isb neg a b => (ev a).bind fun x => (M.of (asB x)).bind fun c => M.pure (.bl (xor neg (decide (c = b))))
  | .and a b => (tst (ev a)).bind fun t => if t then ev b else M.pure (.bl false)
  | .or a b => (tst (ev a)).bind fun t => if t then M.pure (.bl true) else ev b
  | .one a => ev a
  | .not a => (tst (ev a)).bind fun t => M.pure (.bl (!t))
  | .ife c a b => (tst (ev c)).bind fun t => if t then ev a else ev b
  | .ix a i => (ev a).bind fun x => (ev i).bind fun y => M.of (ixD x y)
  | .ixo n i => (getOw n).bind fun _ => (ev i).bind fun y => (getOw n).bind fun xs => M.of (ixD (.lst xs) y)
  | .leno n => (getOw n).bind fun xs => M.pure (.int xs.length)
  | .emo neg n => (getOw n).bind fun xs => M.of ((eqD (.lst xs) (.lst [])).map fun b => .bl (xor neg b))
  | .tupo n => (getOw n).bind fun xs => M.pure (.tup xs)
  | .sl a lo hi => (ev a).bind fun x => (evo lo).bind fun l => (evo hi).bind fun h => M.of (slD x l h)
  | .rv a => (ev a).bind fun x => M.of (rvD x)
  | .call f es => (evs es).bind fun ds => callM (F f) ds
  | .blt b es => (evs es).bind fun ds => M.of (bltD b ds)
  | .sst e => (noEx (ev e)).bind fun x => M.of (sstD x)
  | .sln e => (noEx (ev e)).bind fun x => M.of (slnD x)
  | .isi a t => (ev a).bind fun x => M.of ((isiD x t).map .bl)
  | .met m a es => (ev a).bind fun x => (evs es).bind fun ds => M.of (metD m x ds)
  | .comp own elt tg it cond => (evi it).bind fun items => compM own (asg tg) (evc cond) (ev elt) items
  | .popc n => (getSh n).bind fun d => popM d
  | .callo f es => (evs es).bind fun ds => calloM (F f) ds
  | .newc e => (ev e).bind newM
  | .inr neg a lo hi => (ev a).bind fun x => (M.of (asI x)).bind fun i => M.pure (.bl (xor neg (decide (lo ≤ i) && decide (i < hi))))
  | .err f es => (noEx (evs es)).bind fun ds => errM (F f) ds
  | .idx a b => (ev a).bind fun x => (M.of (asLst x)).bind fun xs => (ev b).bind fun y => M.of (idxD (.lst xs) y)
  | .emc neg n => (getSh n).bind fun d => (celM d).bind fun xs => M.of ((eqD (.lst xs) (.lst [])).map fun b => .bl (xor neg b))
  | .app n a => (getOw n).bind fun _ => (ev a).bind fun x => (getOw n).bind fun xs => if xs.length < lim then (putSl n (.ow (xs ++ [x]))).bind fun _ => M.pure .non else fun _ _ => .bad
def evs : Es → M (List D)
  | .nil => M.pure []
  | .cons e es => (ev e).bind fun x => (evs es).bind fun xs => M.pure (x :: xs)
def evo : EO → M (Option Int)
  | .non => M.pure none
  | .som e => (ev e).bind fun x => (M.of (asI x)).bind fun i => M.pure (some i)
def evc : EO → M Bool
  | .non => M.pure true
  | .som e => tst (ev e)
def evi : It → M (List D)
  | .seq e => (ev e).bind fun x => M.of (asSeq x)
  | .rng e => (ev e).bind fun x => M.of (rng1 x)
  | .rng2 a b => (ev a).bind fun x => (ev b).bind fun y => M.of (rng2 x y)
  | .enm e => (ev e).bind fun x => (M.of (asLst x)).bind fun xs => M.pure (enmD 0 xs)
  | .zip a b => (ev a).bind fun x => (ev b).bind fun y => (M.of (zipS x y)).bind fun l => M.pure l
end
inductive Fl where | nx | br | rt (d : D) | ro (xs : List D)
def fLoop (st : D → M Unit) (b : M Fl) : List D → M Fl
  | [] => M.pure .nx
  | d :: ds => (st d).bind fun _ => b.bind fun f => match f with
    | .nx => fLoop st b ds
    | .br => M.pure .nx
    | .rt x => M.pure (.rt x)
    | .ro x => M.pure (.ro x)
def wLoop (c : M Bool) (b : M Fl) : Nat → M Fl
  | 0 => fun _ _ => .bad
  | n + 1 => c.bind fun t => if t then b.bind fun f => match f with
    | .nx => wLoop c b n
    | .br => M.pure .nx
    | .rt x => M.pure (.rt x)
    | .ro x => M.pure (.ro x)
    else M.pure .nx
def setIx (xs : List D) (k : D) (x : D) : Option (List D) := match k with
  | .int i => (L2.ixN xs.length i).map fun j => xs.set j x
  | _ => none
mutual
def ex : S → M Fl
  | .ex e => (ev F gl e).bind fun _ => M.pure .nx
  | .set t e => (ev F gl e).bind fun x => (asg t x).bind fun _ => M.pure .nx
  | .own i e => (ev F gl e).bind fun x => match x with
    | .lst xs => (putSl i (.ow xs)).bind fun _ => M.pure .nx
    | _ => fun _ _ => .bad
  | .par i j oi oj a b => (pit oi (ev F gl a)).bind fun x => (pit oj (ev F gl b)).bind fun y => (putSl i x).bind fun _ => (putSl j y).bind fun _ => M.pure .nx
  | .par3 i j l oi a b c => (pit oi (ev F gl a)).bind fun x => (pit false (ev F gl b)).bind fun y => (pit false (ev F gl c)).bind fun z => (putSl i x).bind fun _ => (putSl j y).bind fun _ => (putSl l z).bind fun _ => M.pure .nx
  | .sti i k e => (ev F gl e).bind fun x => (getOw i).bind fun _ => (ev F gl k).bind fun y => (getOw i).bind fun xs => (M.of (setIx xs y x)).bind fun l => (putSl i (.ow l)).bind fun _ => M.pure .nx
  | .ret e => (ev F gl e).bind fun x => M.pure (.rt x)
  | .retf e => (ev F gl e).bind fun x => match x with
    | .lst xs => M.pure (.ro xs)
    | _ => fun _ _ => .bad
  | .reto i => (getOw i).bind fun xs => M.pure (.ro xs)
  | .retn => M.pure (.rt .non)
  | .ite c a b => (tst (ev F gl c)).bind fun t => if t then exs a else exs b
  | .for_ t it b => (evi F gl it).bind fun items => fLoop (asg t) (exs b) items
  | .whl c b => wLoop (tst (ev F gl c)) (exs b) 1000000
  | .pass => M.pure .nx
  | .brk => M.pure .br
  | .raise x => fun ρ s => .ex x ρ s
def exs : Ss → M Fl
  | .nil => M.pure .nx
  | .cons s ss => (ex s).bind fun f => match f with
    | .nx => exs ss
    | .br => M.pure .br
    | .rt x => M.pure (.rt x)
    | .ro x => M.pure (.ro x)
end
end
/-- a def: its parameters, its slots, its body -/
structure Df where
  n : Nat
  k : Nat
  body : Ss
def runD (F : Nat → List D → So → FR) (gl : Nat → Option D) (d : Df) : List D → So → FR := fun ds s =>
  if ds.length = d.n then match exs F gl d.body (ds.map .sh ++ List.replicate (d.k - d.n) .no) s with
    | .ok (.rt x) _ s1 => .ok x s1
    | .ok (.ro x) _ s1 => .own x s1
    | .ok .nx _ s1 => .ok .non s1
    | .ok .br _ _ => .bad
    | .ex c _ s1 => .ex c s1
    | .bad => .bad
  else .bad
/-- the program, so many calls deep -/
def prg (P : List Df) (gl : Nat → Option D) : Nat → Nat → List D → So → FR
  | 0 => fun _ _ _ => .bad
  | n + 1 => fun f => match P[f]? with
    | some d => runD (prg P gl n) gl d
    | none => fun _ _ => .bad
end Pv
end
section
set_option Elab.async false
set_option linter.all false
set_option maxRecDepth 100000
set_option maxHeartbeats 4000000
namespace Pv
open PySem PySem.Spec PyProof.Rows L2

theorem lim_eq : lim = sizeLine := rfl
section
variable {X : Cx} {pins : List (Addr × Obj)} {σ : L2.St} {H : Hp} {s : Shared}
theorem Inv.freeze (I : Inv X pins σ H s) {p : Addr} {vs : List V} (h : H p = some (.lst vs)) : ∃ o, Inv X pins σ (upd H p (.frz o (.lst vs))) s := by
  obtain ⟨z, its, n, r, e⟩ := I.hok p _ h
  refine ⟨{ cls := .type "list", data := .seq its.toArray n }, ?_⟩
  have nt : ∀ b u, H b = some u → u ≠ .lst vs → b ≠ p := fun b u q d => ne_of q h d
  have nn : ∀ b, H b = none → b ≠ p := fun b q z => by rw [z, h] at q; cases q
  refine I.un (h' := s.heap) (t' := s.toks) (H' := upd H p (.frz { cls := .type "list", data := .seq its.toArray n } (.lst vs))) ⟨fun b o q _ _ _ => q, fun b o q _ _ _ => ⟨o.slots, q⟩, fun b o q hn _ => ?_, fun b o q _ => ⟨o, q⟩, fun b xs q => ?_, fun b o u q => ?_, fun b ps q => ⟨#[], ?_⟩⟩ (fun b u q => ?_)
  · rw [upd_ne (nn b hn)]; exact hn
  · rw [upd_ne (nt b _ q (fun z => by cases z))]; exact q
  · rw [upd_ne (nt b _ q (fun z => by cases z))]; exact q
  · rw [upd_ne (nt b _ q (fun z => by cases z)), q]; simp
  · by_cases hb : b = p
    · subst hb
      rw [upd_same] at q
      cases q
      exact ⟨e, z, its, n, r, e⟩
    · rw [upd_ne hb] at q
      refine (I.hok b u q).stay (fun c v _ q => q) (fun c q => ?_) fun c xs q => ?_
      · rw [upd_ne (nt c _ q (fun z => by cases z))]; exact q
      · rw [upd_ne (nt c _ q (fun z => by cases z))]; exact q
/-- a fresh list is written no more -/
theorem ep_frz {Q Q0 : VK} {u : Value} {s' : Shared} (h : EP X pins σ Q0 u s') (k : ∀ v H1, Q0 v H1 → ∃ p vs, v = .ref p ∧ H1 p = some (.lst vs) ∧ ∀ o, Q (.ref p) (upd H1 p (.frz o (.lst vs)))) : EP X pins σ Q u s' := by
  obtain ⟨v, H1, I1, r1, q⟩ := h
  obtain ⟨p, vs, rfl, h1, h2⟩ := k v H1 q
  obtain ⟨o, J⟩ := Inv.freeze I1 h1
  exact ⟨.ref p, _, J, r1, h2 o⟩
theorem Inv.fzObj (I : Inv X pins σ H s) {a : Addr} {xs : List V} (h : Fz H a xs) : xs.length ≤ sizeLine ∧ ∃ (its : List Value) (n : Nat), Vals xs its ∧ xs.length = its.length ∧ s.heap.get? a = some { cls := .type "list", data := .seq its.toArray n } := by
  obtain ⟨o, h⟩ := h
  obtain ⟨e, z, its, n, r, e'⟩ := I.hok a _ h
  exact ⟨z, its, n, r, r.length, e'⟩
end
theorem relLst {G : Wd} {μ : List Addr} {H : Hp} {p : Addr} {vs : List V} {ds : List D} {o : Obj} (hn : H p = none) (r : RelL G μ H vs ds) : Rel G μ (upd H p (.frz o (.lst vs))) (.ref p) (.lst ds) :=
  .lst ⟨o, upd_same⟩ (RelL.mono (List.prefix_refl _) (Same.upd hn).keep _ _ r)
theorem relTup {G : Wd} {μ : List Addr} {H : Hp} {p : Addr} {vs : List V} {ds : List D} (hn : H p = none) (r : RelL G μ H vs ds) : Rel G μ (upd H p (.tup vs)) (.ref p) (.tup ds) :=
  .tup (.inl (.inl upd_same)) (RelL.mono (List.prefix_refl _) (Same.upd hn).keep _ _ r)
theorem upd_frz {H : Hp} {p : Addr} {o : Obj} {u : HO} : upd (upd H p u) p (.frz o u) = upd H p (.frz o u) := upd_upd

abbrev R2D (G : Wd) (f : D → D → Option D) : R2 := fun x y H Q => ∃ μ d e r, Rel G μ H x d ∧ Rel G μ H y e ∧ f d e = some r ∧ ∀ v H', Same H H' → Rel G μ H' v r → Q v H'
def BOp.py : BOp → Operator
  | .add => .Add | .sub => .Sub | .mul => .Mult | .fdiv => .FloorDiv | .mod => .Mod

section
variable {X : Cx} {G : Wd}
theorem rel_int {μ : List Addr} {H : Hp} {v : V} {i : Int} (r : Rel G μ H v (.int i)) : v = .int i := by cases r; rfl
theorem rel_bl {μ : List Addr} {H : Hp} {v : V} {i : Bool} (r : Rel G μ H v (.bl i)) : v = .bl i := by cases r; rfl
theorem rel_str {μ : List Addr} {H : Hp} {v : V} {i : Str} (r : Rel G μ H v (.str i)) : v = .str i := by cases r; rfl
theorem rel_non {μ : List Addr} {H : Hp} {v : V} (r : Rel G μ H v .non) : v = .non := by cases r; rfl
theorem rel_tup {μ : List Addr} {H : Hp} {v : V} {ds : List D} (r : Rel G μ H v (.tup ds)) : ∃ a vs, v = .ref a ∧ SqT G.K H a vs ∧ RelL G μ H vs ds := by
  cases r with | tup h r => exact ⟨_, _, rfl, h, r⟩
theorem rel_lst {μ : List Addr} {H : Hp} {v : V} {ds : List D} (r : Rel G μ H v (.lst ds)) : ∃ a vs, v = .ref a ∧ Fz H a vs ∧ RelL G μ H vs ds := by
  cases r with | lst h r => exact ⟨_, _, rfl, h, r⟩

/-- two lists, a new one, unfrozen -/
theorem cat_fz {pins : List (Addr × Obj)} {σ : L2.St} {H : Hp} {s : Shared} {a b : Addr} {xs ys : List V} {Q : VK} (I : Inv X pins σ H s) (h1 : Fz H a xs) (h2 : Fz H b ys) (hz : xs.length + ys.length ≤ sizeLine)
    (q : ∀ p, H p = none → Q (.ref p) (upd H p (.lst (xs ++ ys)))) : wpAny (model X.prog X.w) X.A (binaryOp .Add (.ref a) (.ref b)) (EP X pins σ Q) X.xe s := by
  obtain ⟨_, it1, n1, r1, l1, e1⟩ := Inv.fzObj I h1
  obtain ⟨_, it2, n2, r2, l2, e2⟩ := Inv.fzObj I h2
  refine PySem.P.add_list e1 e2 ?_ (by simp only [List.size_toArray]; omega)
  have ea : it1.toArray ++ it2.toArray = (it1 ++ it2).toArray := by simp
  rw [ea]
  exact ⟨.ref _, _, I.lnew (t' := s.toks) (r1.append r2) (by rw [List.length_append]; exact hz), rfl, q _ I.fresh⟩
theorem gives_sub_bl (a b : Bool) : Gives (Builtin.«int.__sub__» ⟨[.bool a, .bool b], []⟩) (.int ((if a = true then (1 : Int) else 0) - (if b = true then (1 : Int) else 0))) :=
  .of_wp fun M A E st Q hq => by
    obtain ⟨hp, g, dd, tt, ww⟩ := st
    wp_walk
    exact ⟨_, rfl, hq⟩
theorem sub_bl : OpR X (binaryOp .Sub) (fun x y H Q => ∃ i j, x = .bl i ∧ y = .bl j ∧ Q (.int (b2n i - b2n j)) H) := by
  intro pins s σ H x y v u Q I rx ry h
  obtain ⟨i, j, rfl, rfl, q⟩ := h
  cases rx; cases ry
  exact binaryOp_gives (op := .Sub) (T := "bool") rfl rfl F.fills_bool_sub F.slot_bool_sub F.entry_int_sub (F.args_int_sub_2 _ _) (gives_sub_bl i j) trivial ⟨.int _, H, I.tok _, ⟨_, rfl⟩, q⟩
theorem add_bi : OpR X (binaryOp .Add) (fun x y H Q => ∃ i j, x = .bl i ∧ y = .int j ∧ Q (.int (b2n i + j)) H) := by
  intro pins s σ H x y v u Q I rx ry h
  obtain ⟨i, j, rfl, rfl, q⟩ := h
  cases rx
  obtain ⟨t, rfl⟩ := ry
  exact IntBool.add_bool_int ⟨.int _, H, I.tok _, ⟨_, rfl⟩, q⟩
theorem sub_bi : OpR X (binaryOp .Sub) (fun x y H Q => ∃ i j, x = .bl i ∧ y = .int j ∧ Q (.int (b2n i - j)) H) := by
  intro pins s σ H x y v u Q I rx ry h
  obtain ⟨i, j, rfl, rfl, q⟩ := h
  cases rx
  obtain ⟨t, rfl⟩ := ry
  exact IntBool.sub_bool_int ⟨.int _, H, I.tok _, ⟨_, rfl⟩, q⟩
/-- a written list times a number -/
theorem rep_fz {pins : List (Addr × Obj)} {σ : L2.St} {H : Hp} {s : Shared} {a : Addr} {k : Int} {t : Tok} {xs : List V} {Q : VK} (I : Inv X pins σ H s) (h1 : Fz H a xs) (b1 : -1000 < k) (b2 : k < 1000) (hz : xs.length * k.toNat ≤ sizeLine)
    (q : ∀ p, H p = none → Q (.ref p) (upd H p (.lst (List.replicate k.toNat xs).flatten))) : wpAny (model X.prog X.w) X.A (binaryOp .Mult (.ref a) (.int k t)) (EP X pins σ Q) X.xe s := by
  obtain ⟨_, il, nn, rl, ll, el⟩ := Inv.fzObj I h1
  have w1 : il.toArray.size * k.toNat ≤ sizeLine := by rw [List.size_toArray, ← ll]; exact hz
  have w2 : ¬ il.toArray.size * k.toNat > (2 ^ 63 - 1) / 8 := by
    have : (sizeLine : Nat) ≤ (2 ^ 63 - 1) / 8 := by decide
    omega
  have w3 : ¬ (!Builtin.List.listFitsIndex k) = true := by
    rw [fitsIndex_both (by omega) (by omega)]
    exact Bool.false_ne_true
  have w4 : ¬ Builtin.List.listTooLong (il.toArray.size * k.toNat) = true := by rw [notLongL w1]; exact Bool.false_ne_true
  have w5 : List.foldl (fun x1 x2 => x1 ++ x2) #[] (List.replicate (if il.toArray.isEmpty = true then 0 else k.toNat) il.toArray) = (List.replicate k.toNat il).flatten.toArray := by
    have f0 : ∀ m : Nat, List.foldl (fun x1 x2 => x1 ++ x2) #[] (List.replicate m il.toArray) = (List.replicate m il).flatten.toArray := fun m => by
      have z := foldl_rep il m []
      rwa [List.nil_append] at z
    rw [f0]
    cases il with
    | nil => simp
    | cons c d => rw [if_neg (by simp)]
  have go : wpAny (model X.prog X.w) X.A (binaryOp .Mult (.ref a) (.int k t)) (fun v s' => v = .ref s.heap.objs.size ∧ s' = { s with heap := s.heap.push { cls := .type "list", data := .seq (List.replicate k.toNat il).flatten.toArray } }) X.xe s := by
    refine wpAny_binaryOp_repeat_ref (T := "list") (U := "int") (by decide) ⟨_, el, rfl⟩ (fun z => typeIs_int z k t) noFill_list_mul F.fills_int_mul F.slot_int_rmul repeat_list F.slot_int_index.lookup ?_
    refine call_meets F.slot_int_rmul (typeIs_int s k t) F.entry_int_rmul (F.args_int_rmul_2 _ _) (int___rmul___int_list k t a il.toArray nn) ⟨el, rfl, ⟨_, el, rfl⟩, ?_⟩
    refine call_meets F.slot_list_mul ⟨_, el, rfl⟩ F.entry_list_mul (F.args_list_mul_2 _ _) (AutoListH.list___mul___list_int_3 a il.toArray nn k t w3 w2 w4) ⟨el, ?_⟩
    rw [w5]
    exact ⟨rfl, rfl⟩
  refine thn go fun v s' hv => ?_
  obtain ⟨rfl, rfl⟩ := hv
  exact ⟨.ref _, _, I.lnew (t' := s.toks) (rl.rep k.toNat) (by rw [PyProof.Rows.lm_len_rep_flat, Nat.mul_comm]; exact hz), rfl, q _ I.fresh⟩

theorem bin_ok (hK : X.K = G.K) (o : BOp) : OpR X (binaryOp o.py) (R2D G (binD o)) := by
  intro pins s σ H x y v u Q I rx ry h
  obtain ⟨μ, d, e, r, rd, re, hf, q⟩ := h
  have qi : ∀ i : Int, r = .int i → Q (.int i) H := fun i z => q _ _ Same.rfl' (z ▸ .int i)
  cases o with
  | add =>
    cases d with
    | int i =>
      cases e with
      | int j =>
        simp only [binD, Option.some.injEq] at hf
        exact op_add pins s σ H x y v u Q I rx ry ⟨i, j, rel_int rd, rel_int re, qi _ hf.symm⟩
      | _ => simp [binD] at hf
    | bl i =>
      cases e with
      | int j =>
        simp only [binD, Option.some.injEq] at hf
        exact add_bi pins s σ H x y v u Q I rx ry ⟨i, j, rel_bl rd, rel_int re, qi _ hf.symm⟩
      | _ => simp [binD] at hf
    | str a =>
      cases e with
      | str b =>
        simp only [binD] at hf
        split at hf
        · cases hf
          exact op_add_str pins s σ H x y v u Q I rx ry ⟨a, b, rel_str rd, rel_str re, ‹_›, q _ _ Same.rfl' (.str _)⟩
        · cases hf
      | _ => simp [binD] at hf
    | tup xs =>
      cases e with
      | tup ys =>
        simp only [binD] at hf
        split at hf
        · rename_i hl
          cases hf
          obtain ⟨a, vs, rfl, h1, r1⟩ := rel_tup rd
          obtain ⟨b, ws, rfl, h2, r2⟩ := rel_tup re
          refine op_catA pins s σ H _ _ v u Q I rx ry ⟨a, b, vs, ws, rfl, rfl, hK ▸ h1, hK ▸ h2, by rw [r1.length, r2.length]; exact hl, fun z => ?_, fun _ z => ?_, fun _ _ p hp => ?_⟩
          · subst z
            cases r1
            exact q _ _ Same.rfl' re
          · subst z
            cases r2
            rw [List.append_nil] at q
            exact q _ _ Same.rfl' rd
          · exact q _ _ (Same.upd hp) (relTup hp (r1.append r2))
        · cases hf
      | _ => simp [binD] at hf
    | lst xs =>
      cases e with
      | lst ys =>
        simp only [binD] at hf
        split at hf
        · rename_i hl
          cases hf
          obtain ⟨a, vs, rfl, h1, r1⟩ := rel_lst rd
          obtain ⟨b, ws, rfl, h2, r2⟩ := rel_lst re
          cases rx; cases ry
          refine thn (cat_fz (Q := fun v H1 => ∃ p, v = .ref p ∧ H p = none ∧ H1 = upd H p (.lst (vs ++ ws))) I h1 h2 (by rw [r1.length, r2.length]; exact hl) fun p hp => ⟨p, rfl, hp, rfl⟩) fun w s' z => ep_frz z fun v H1 ⟨p, e1, e2, e3⟩ => ?_
          subst e1 e3
          refine ⟨p, _, rfl, upd_same, fun o => ?_⟩
          rw [upd_frz]
          exact q _ _ (Same.upd e2) (relLst e2 (r1.append r2))
        · cases hf
      | _ => simp [binD] at hf
    | _ => simp [binD] at hf
  | sub =>
    cases d with
    | int i =>
      cases e with
      | int j =>
        simp only [binD, Option.some.injEq] at hf
        exact op_sub pins s σ H x y v u Q I rx ry ⟨i, j, rel_int rd, rel_int re, qi _ hf.symm⟩
      | _ => simp [binD] at hf
    | bl i =>
      cases e with
      | bl j =>
        simp only [binD, Option.some.injEq] at hf
        exact sub_bl pins s σ H x y v u Q I rx ry ⟨i, j, rel_bl rd, rel_bl re, qi _ hf.symm⟩
      | int j =>
        simp only [binD, Option.some.injEq] at hf
        exact sub_bi pins s σ H x y v u Q I rx ry ⟨i, j, rel_bl rd, rel_int re, qi _ hf.symm⟩
      | _ => simp [binD] at hf
    | _ => simp [binD] at hf
  | mul =>
    cases d with
    | int i =>
      cases e with
      | int j =>
        simp only [binD] at hf
        split at hf
        · rename_i hm
          cases hf
          exact op_mulW pins s σ H x y v u Q I rx ry ⟨i, j, rel_int rd, rel_int re, (show i.natAbs.log2 + j.natAbs.log2 < 1000000 from of_decide_eq_true (show okMul i j = true from hm)), qi _ rfl⟩
        · cases hf
      | _ => simp [binD] at hf
    | lst xs =>
      cases e with
      | int k =>
        simp only [binD] at hf
        split at hf
        · rename_i hm
          cases hf
          obtain ⟨a, vs, rfl, h1, r1⟩ := rel_lst rd
          obtain rfl := rel_int re
          cases rx
          obtain ⟨t, rfl⟩ := ry
          refine thn (rep_fz (Q := fun v H1 => ∃ p, v = .ref p ∧ H p = none ∧ H1 = upd H p (.lst (List.replicate k.toNat vs).flatten)) I h1 hm.2.2 hm.1 (by rw [r1.length]; exact hm.2.1) fun p hp => ⟨p, rfl, hp, rfl⟩) fun w s' z => ep_frz z fun v H1 ⟨p, e1, e2, e3⟩ => ?_
          subst e1 e3
          refine ⟨p, _, rfl, upd_same, fun o => ?_⟩
          rw [upd_frz]
          exact q _ _ (Same.upd e2) (relLst e2 (r1.rep _))
        · cases hf
      | _ => simp [binD] at hf
    | tup xs =>
      cases e with
      | int k =>
        simp only [binD] at hf
        split at hf
        · rename_i hm
          cases hf
          obtain ⟨a, vs, rfl, h1, r1⟩ := rel_tup rd
          obtain rfl := rel_int re
          refine op_repT pins s σ H _ _ v u Q I rx ry ⟨a, k, vs, rfl, rfl, hK ▸ h1, ?_, hm.2.2.1, by omega, by rw [r1.length]; exact hm.2.1, fun p hp => ?_⟩
          · intro z
            subst z
            cases r1
            exact absurd hm.2.2.2 (by simp)
          · exact q _ _ (Same.upd hp) (relTup hp (r1.rep _))
        · cases hf
      | _ => simp [binD] at hf
    | _ => simp [binD] at hf
  | fdiv =>
    cases d with
    | int i =>
      cases e with
      | int j =>
        simp only [binD] at hf
        split at hf
        · rename_i hm
          cases hf
          simp only [okDiv, Bool.and_eq_true, decide_eq_true_eq] at hm
          exact op_fdivW pins s σ H x y v u Q I rx ry ⟨i, j, rel_int rd, rel_int re, hm, qi _ rfl⟩
        · split at hf
          · rename_i hm
            cases hf
            exact op_fdivN pins s σ H x y v u Q I rx ry ⟨i, j, rel_int rd, rel_int re, hm, qi _ rfl⟩
          · cases hf
      | _ => simp [binD] at hf
    | _ => simp [binD] at hf
  | mod =>
    cases d with
    | int i =>
      cases e with
      | int j =>
        simp only [binD] at hf
        split at hf
        · cases hf
          exact op_mod pins s σ H x y v u Q I rx ry ⟨i, j, rel_int rd, rel_int re, ‹_›, qi _ rfl⟩
        · cases hf
      | _ => simp [binD] at hf
    | _ => simp [binD] at hf
end
end Pv
end
section
set_option Elab.async false
set_option linter.all false
set_option maxRecDepth 100000
set_option maxHeartbeats 4000000
namespace Pv
open PySem PySem.Spec PyProof.Rows L2

abbrev R2B (G : Wd) (f : D → D → Option Bool) : R2 := fun x y H Q => ∃ μ d e r, Rel G μ H x d ∧ Rel G μ H y e ∧ f d e = some r ∧ Q (.bl r) H
def COp.py : COp → CmpOp
  | .eq => .Eq | .ne => .NotEq | .lt => .Lt | .le => .LtE | .gt => .Gt | .ge => .GtE | .inn => .In | .nin => .NotIn

section
variable {X : Cx} {G : Wd} {μ : List Addr} {H : Hp}
theorem flat_V {v : V} {d : D} (r : Rel G μ H v d) (f : flatD d = true) : flatV v = true := by
  cases r with
  | non => rfl
  | bl b => rfl
  | int i => rfl
  | str x => rfl
  | tup h t => simp [flatD] at f
  | lst h t => simp [flatD] at f
  | ob h => simp [flatD] at f
  | scr h => simp [flatD] at f
theorem flat_eq {v w : V} {d e : D} (r : Rel G μ H v d) (r' : Rel G μ H w e) (f : flatD d = true) (f' : flatD e = true) : eqF d e = eqV v w := by
  cases r <;> first | (simp [flatD] at f; done) | (cases r' <;> first | (simp [flatD] at f'; done) | rfl)
theorem flat_all : ∀ {vs : List V} {ds : List D}, RelL G μ H vs ds → ds.all flatD = true → vs.all flatV = true
  | _, _, .nil, _ => rfl
  | _, _, .cons r t, f => by
    rw [List.all_cons, Bool.and_eq_true] at f
    rw [List.all_cons, flat_V r f.1, flat_all t f.2]
    rfl
theorem flat_in {v : V} {d : D} (r : Rel G μ H v d) (f : flatD d = true) : ∀ {vs : List V} {ds : List D}, RelL G μ H vs ds → ds.all flatD = true → inD d ds = inV v vs
  | _, _, .nil, _ => rfl
  | _, _, .cons (d := e) r' t, f' => by
    rw [List.all_cons, Bool.and_eq_true] at f'
    have h := flat_in r f t f'.2
    unfold inD inV at h ⊢
    rw [List.any_cons, List.any_cons, h, flat_eq r' r f'.1 f]
theorem intsOf_rel : ∀ {vs : List V} {ds : List D} {l : List Int}, RelL G μ H vs ds → intsOf ds = some l → vs = l.map V.int
  | _, _, _, .nil, e => by simp only [intsOf, Option.some.injEq] at e; subst e; rfl
  | _, _, _, .cons (d := d) r t, e => by
    cases d with
    | int i =>
      simp only [intsOf, Option.map_eq_some_iff] at e
      obtain ⟨l, e, rfl⟩ := e
      rw [intsOf_rel t e, rel_int r]
      rfl
    | _ => simp [intsOf] at e
theorem blsOf_rel : ∀ {vs : List V} {ds : List D} {l : List Bool}, RelL G μ H vs ds → blsOf ds = some l → vs = l.map V.bl
  | _, _, _, .nil, e => by simp only [blsOf, Option.some.injEq] at e; subst e; rfl
  | _, _, _, .cons (d := d) r t, e => by
    cases d with
    | bl i =>
      simp only [blsOf, Option.map_eq_some_iff] at e
      obtain ⟨l, e, rfl⟩ := e
      rw [blsOf_rel t e, rel_bl r]
      rfl
    | _ => simp [blsOf] at e
theorem strsOf_rel : ∀ {vs : List V} {ds : List D} {l : List Str}, RelL G μ H vs ds → strsOf ds = some l → vs = l.map V.str
  | _, _, _, .nil, e => by simp only [strsOf, Option.some.injEq] at e; subst e; rfl
  | _, _, _, .cons (d := d) r t, e => by
    cases d with
    | str i =>
      simp only [strsOf, Option.map_eq_some_iff] at e
      obtain ⟨l, e, rfl⟩ := e
      rw [strsOf_rel t e, rel_str r]
      rfl
    | _ => simp [strsOf] at e
theorem eqD_ex {d e : D} {b : Bool} (h : eqD d e = some b) : ∃ x y, d.py = some x ∧ e.py = some y ∧ SeqAt.shaped x = true ∧ SeqAt.shaped y = true ∧ PyData.eqv x y = b := by
  unfold eqD at h
  split at h
  · rename_i x y hx hy
    split at h
    · rename_i hs
      cases h
      rw [Bool.and_eq_true] at hs
      exact ⟨x, y, hx, hy, hs.1, hs.2, rfl⟩
    · cases h
  · cases h
theorem cmp_ok (hK : X.K = G.K) (hu : X.A.units + 64 < cLine) (o : COp) : OpR X (compareOp o.py) (R2B G (cmpD o)) := by
  intro pins s σ H x y v u Q I rx ry h
  obtain ⟨μ, d, e, r, rd, re, hf, q⟩ := h
  cases o with
  | eq =>
    obtain ⟨a, b, ha, hb, sa, sb, rfl⟩ := eqD_ex hf
    exact op_eqD hu pins s σ H x y v u Q I rx ry ⟨a, b, hK ▸ Rel.dp _ _ _ rd ha, hK ▸ Rel.dp _ _ _ re hb, sa, sb, q⟩
  | ne =>
    simp only [cmpD, Option.map_eq_some_iff] at hf
    obtain ⟨c, hf, rfl⟩ := hf
    obtain ⟨a, b, ha, hb, sa, sb, rfl⟩ := eqD_ex hf
    exact op_neD hu pins s σ H x y v u Q I rx ry ⟨a, b, hK ▸ Rel.dp _ _ _ rd ha, hK ▸ Rel.dp _ _ _ re hb, sa, sb, q⟩
  | lt =>
    cases d with
    | int i =>
      cases e with
      | int j =>
        simp only [cmpD, Option.some.injEq] at hf
        subst hf
        exact op_lt pins s σ H x y v u Q I rx ry ⟨i, j, rel_int rd, rel_int re, q⟩
      | _ => simp [cmpD] at hf
    | tup xs =>
      cases e with
      | tup ys =>
        simp only [cmpD] at hf
        split at hf
        · rename_i a b ha hb
          cases hf
          obtain ⟨p, vs, rfl, h1, r1⟩ := rel_tup rd
          obtain ⟨p2, ws, rfl, h2, r2⟩ := rel_tup re
          exact op_ltT (by omega) pins s σ H _ _ v u Q I rx ry ⟨p, p2, a, b, rfl, rfl, by rw [hK, ← intsOf_rel r1 ha]; exact h1, by rw [hK, ← intsOf_rel r2 hb]; exact h2, q⟩
        · cases hf
      | _ => simp [cmpD] at hf
    | _ => simp [cmpD] at hf
  | le =>
    cases d with
    | int i =>
      cases e with
      | int j =>
        simp only [cmpD, Option.some.injEq] at hf
        subst hf
        exact op_le pins s σ H x y v u Q I rx ry ⟨i, j, rel_int rd, rel_int re, q⟩
      | _ => simp [cmpD] at hf
    | _ => simp [cmpD] at hf
  | gt =>
    cases d with
    | int i =>
      cases e with
      | int j =>
        simp only [cmpD, Option.some.injEq] at hf
        subst hf
        exact op_gt pins s σ H x y v u Q I rx ry ⟨i, j, rel_int rd, rel_int re, q⟩
      | _ => simp [cmpD] at hf
    | _ => simp [cmpD] at hf
  | ge =>
    cases d with
    | int i =>
      cases e with
      | int j =>
        simp only [cmpD, Option.some.injEq] at hf
        subst hf
        exact op_ge pins s σ H x y v u Q I rx ry ⟨i, j, rel_int rd, rel_int re, q⟩
      | _ => simp [cmpD] at hf
    | _ => simp [cmpD] at hf
  | inn =>
    cases e with
    | tup ys =>
      have hf : (if (flatD d && ys.all flatD) = true then some (inD d ys) else none) = some r := by cases d <;> exact hf
      split at hf
      · rename_i hc
        rw [Bool.and_eq_true] at hc
        cases hf
        obtain ⟨p, vs, rfl, h1, r1⟩ := rel_tup re
        exact op_in_seq pins s σ H _ _ v u Q I rx ry ⟨p, vs, rfl, .inr (hK ▸ h1), flat_V rd hc.1, flat_all r1 hc.2, by rw [flat_in rd hc.1 r1 hc.2] at q; exact q⟩
      · cases hf
    | lst ys =>
      have hf : (if (flatD d && ys.all flatD) = true then some (inD d ys) else none) = some r := by cases d <;> exact hf
      split at hf
      · rename_i hc
        rw [Bool.and_eq_true] at hc
        cases hf
        obtain ⟨p, vs, rfl, h1, r1⟩ := rel_lst re
        exact op_in_seq pins s σ H _ _ v u Q I rx ry ⟨p, vs, rfl, .inl h1.sq, flat_V rd hc.1, flat_all r1 hc.2, by rw [flat_in rd hc.1 r1 hc.2] at q; exact q⟩
      · cases hf
    | str b =>
      cases d with
      | str a =>
        simp only [cmpD, Option.some.injEq] at hf
        subst hf
        exact op_in_str pins s σ H x y v u Q I rx ry ⟨a, b, rel_str rd, rel_str re, q⟩
      | _ => simp [cmpD] at hf
    | _ => cases d <;> simp [cmpD] at hf
  | nin =>
    cases e with
    | tup ys =>
      have hf : (if (flatD d && ys.all flatD) = true then some (!inD d ys) else none) = some r := by cases d <;> exact hf
      split at hf
      · rename_i hc
        rw [Bool.and_eq_true] at hc
        cases hf
        obtain ⟨p, vs, rfl, h1, r1⟩ := rel_tup re
        exact op_notIn_seq pins s σ H _ _ v u Q I rx ry ⟨p, vs, rfl, .inr (hK ▸ h1), flat_V rd hc.1, flat_all r1 hc.2, by rw [flat_in rd hc.1 r1 hc.2] at q; exact q⟩
      · cases hf
    | lst ys =>
      have hf : (if (flatD d && ys.all flatD) = true then some (!inD d ys) else none) = some r := by cases d <;> exact hf
      split at hf
      · rename_i hc
        rw [Bool.and_eq_true] at hc
        cases hf
        obtain ⟨p, vs, rfl, h1, r1⟩ := rel_lst re
        exact op_notIn_seq pins s σ H _ _ v u Q I rx ry ⟨p, vs, rfl, .inl h1.sq, flat_V rd hc.1, flat_all r1 hc.2, by rw [flat_in rd hc.1 r1 hc.2] at q; exact q⟩
      · cases hf
    | _ => cases d <;> simp [cmpD] at hf

theorem RelL.atI {vs : List V} {ds : List D} {i : Int} {d : D} (r : RelL G μ H vs ds) (h : L2.atI ds i = some d) : ∃ v, L2.atI vs i = some v ∧ Rel G μ H v d := by
  unfold L2.atI at h ⊢
  rw [r.length]
  cases e : L2.ixN ds.length i with
  | none => rw [e] at h; cases h
  | some j =>
    rw [e] at h
    obtain ⟨v, h1, h2⟩ := r.get h
    exact ⟨v, h1, h2⟩
theorem ix_ok (hK : X.K = G.K) : IxR X (R2D G ixD) := by
  have base : IxR X (rIx X.K) := ix_seq
  intro ea eb pins s σ H x y v u Q I rx ry h
  refine base ea eb pins s σ H x y v u Q I rx ry ?_
  obtain ⟨μ, d, e, r, rd, re, hf, q⟩ := h
  cases e with
  | int i =>
    obtain rfl := rel_int re
    cases d with
    | tup xs =>
      obtain ⟨p, vs, rfl, h1, r1⟩ := rel_tup rd
      obtain ⟨w, h2, r2⟩ := r1.atI hf
      exact .inr (.inl ⟨p, vs, i, w, rfl, rfl, hK ▸ h1, h2, q _ _ Same.rfl' r2⟩)
    | lst xs =>
      obtain ⟨p, vs, rfl, h1, r1⟩ := rel_lst rd
      obtain ⟨w, h2, r2⟩ := r1.atI hf
      exact .inl ⟨p, vs, i, w, rfl, rfl, h1.sq, h2, q _ _ Same.rfl' r2⟩
    | scr ns =>
      simp only [ixD, Option.map_eq_some_iff] at hf
      obtain ⟨j, h2, rfl⟩ := hf
      cases rd with
      | scr h1 =>
        refine .inl ⟨_, _, i, .int j, rfl, rfl, hK ▸ h1.sq, ?_, q _ _ Same.rfl' (.int _)⟩
        have e := h2
        unfold L2.atI at e ⊢
        rw [List.length_map]
        simp only [Option.bind_eq_some_iff, List.getElem?_map] at e ⊢
        obtain ⟨k, e1, e2⟩ := e
        exact ⟨k, e1, by rw [e2]; rfl⟩
    | str z =>
      simp only [ixD] at hf
      split at hf
      · rename_i hz
        simp only [Option.map_eq_some_iff] at hf
        obtain ⟨c, h2, rfl⟩ := hf
        exact .inr (.inr ⟨z, i, c, rel_str rd, rfl, hz, h2, q _ _ Same.rfl' (.str _)⟩)
      · cases hf
    | _ => simp [ixD] at hf
  | _ => cases d <;> simp [ixD] at hf
theorem RelL.cut {vs : List V} {ds : List D} (r : RelL G μ H vs ds) (lo hi : Option Int) : RelL G μ H (cutV vs lo hi) (cutL ds lo hi) := by
  unfold cutV cutL
  rw [r.length]
  exact (r.drop _).take _
theorem cut_whole {vs : List V} {lo hi : Option Int} (h : HT.sIx vs.length 0 lo = 0 ∧ HT.sIx vs.length vs.length hi = vs.length) : cutV vs lo hi = vs := by
  unfold cutV
  rw [h.1, h.2]
  simp
theorem sl_ok (hK : X.K = G.K) : SlR X (fun x lo hi H Q => ∃ μ d r, Rel G μ H x d ∧ slD d lo hi = some r ∧ ((∃ xs, d = .tup xs ∧ ∀ v H', Same H H' → Rel G μ H' v r → Q v H') ∨ ∃ xs, d = .lst xs ∧ ∀ p vs, H p = none → RelL G μ H vs (cutL xs lo hi) → Q (.ref p) (upd H p (.lst vs)))) := by
  intro pins s σ H x v vl vu lo hi sl Q I rx hs pl pu h
  obtain ⟨μ, d, r, rd, hf, h⟩ := h
  rcases h with ⟨xs, rfl, q⟩ | ⟨xs, rfl, q⟩
  · simp only [slD, Option.some.injEq] at hf
    subst hf
    obtain ⟨p, vs, rfl, h1, r1⟩ := rel_tup rd
    refine sl_tupA pins s σ H _ v vl vu lo hi sl Q I rx hs pl pu ⟨p, vs, rfl, hK ▸ h1, fun z => ?_, fun _ p hp => q _ _ (Same.upd hp) (relTup hp (r1.cut _ _))⟩
    refine q _ _ Same.rfl' (.tup h1 ?_)
    have := r1.cut lo hi
    rw [cut_whole z] at this
    exact this
  · obtain ⟨p, vs, rfl, h1, r1⟩ := rel_lst rd
    exact sl_list pins s σ H _ v vl vu lo hi sl Q I rx hs pl pu ⟨p, vs, rfl, h1.sq, fun p hp => q p _ hp (r1.cut _ _)⟩
end
end Pv
end
section
set_option Elab.async false
set_option linter.all false
set_option maxRecDepth 100000
set_option maxHeartbeats 4000000
namespace Pv
open PySem PySem.Spec PyProof.Rows L2

/-- all but lists and changing things stay -/
def Calm (H H' : Hp) : Prop := ∀ b o, H b = some o → (∀ vs, o ≠ .lst vs) → H' b = some o
theorem Calm.tabS {H H' : Hp} {P : Addr} {q : Str} (c : Calm H H') (t : LamX.TabS H P q) : LamX.TabS H' P q := by
  obtain ⟨ps, h1, h2, h3⟩ := t
  refine ⟨ps, c _ _ h1 (fun _ z => by cases z), h2, fun pos cv hc => ?_⟩
  obtain ⟨k, e1, e2⟩ := h3 pos cv hc
  exact ⟨k, e1, c _ _ e2 (fun _ z => by unfold LamX.CodeO at z; cases z)⟩
theorem Calm.tabs {T : List (Addr × Str)} {H H' : Hp} (c : Calm H H') (t : LamX.Tabs T H) : LamX.Tabs T H' := fun p hp => c.tabS (t p hp)
theorem Calm.keep {H H' : Hp} (c : Calm H H') : Keep H H' := ⟨fun a xs h => c _ _ h (fun _ z => by cases z), fun a o u h => c _ _ h (fun _ z => by cases z)⟩
theorem Calm.upd {H : Hp} {p : Addr} {vs : List V} {o : HO} (h : H p = some (.lst vs)) : Calm H (upd H p o) := fun b u e n => by
  rw [upd_ne (fun z => by subst z; rw [h] at e; cases e; exact n vs rfl)]; exact e

section
variable {G : Wd} {μ0 μ : List Addr} {H0 H H' : Hp} {σ : L2.St} {ρ : Ro} {S : So}
/-- p is a list of our own that no slot holds -/
structure Frs (μ0 : List Addr) (H0 : Hp) (μ : List Addr) (σ : L2.St) (ρ : Ro) (p : Addr) : Prop where
  mu : p ∉ μ
  h0 : H0 p = none
  ow : ∀ (i : Nat) (ds : List D), ρ[i]? = some (.ow ds) → σ[i]? ≠ some (some (.ref p))
theorem Jn.frs (J : Jn G μ0 H0 μ σ H ρ S) {p : Addr} (hp : H p = none) : Frs μ0 H0 μ σ ρ p := by
  refine ⟨fun z => ?_, ?_, fun i ds e z => ?_⟩
  · rcases J.cells.mem z with ⟨vs, e⟩ | ⟨C, dx, fs, e⟩ <;> (rw [hp] at e; cases e)
  · cases q : H0 p with
    | none => rfl
    | some o =>
      by_cases hm : p ∈ μ0
      · obtain ⟨t, ht⟩ := J.pre
        have hm' : p ∈ μ := by rw [← ht]; exact List.mem_append_left _ hm
        rcases J.cells.mem hm' with ⟨vs, e⟩ | ⟨C, dx, fs, e⟩ <;> (rw [hp] at e; cases e)
      · by_cases ht : ∃ ps, o = .tbl ps
        · obtain ⟨ps, rfl⟩ := ht
          obtain ⟨m, e⟩ := J.frm.tbl p ps q
          rw [hp] at e; cases e
        · have := J.frm.stay p o q hm (fun ps z => ht ⟨ps, z⟩)
          rw [hp] at this; cases this
  · obtain ⟨p', vs, h1, h2, _⟩ := J.ow i ds e
    rw [z] at h1
    cases h1
    rw [hp] at h2; cases h2
/-- a list of our own is changed, or written no more: the other slots -/
theorem CellAt.calm {a : Addr} {c : Cell} (x : CellAt G μ H a c) (k : Keep H H') (e : H' a = H a) : CellAt G μ H' a c := by
  cases c with
  | lst ds => obtain ⟨vs, h, r⟩ := x; exact ⟨vs, e.trans h, RelL.mono (List.prefix_refl _) k _ _ r⟩
  | ins c fs => obtain ⟨dx, vs, h, r⟩ := x; exact ⟨dx, vs, e.trans h, RelL.mono (List.prefix_refl _) k _ _ r⟩
theorem Jn.chg (J : Jn G μ0 H0 μ σ H ρ S) {p : Addr} {vs : List V} {o : HO} (hp : H p = some (.lst vs)) (f : Frs μ0 H0 μ σ ρ p) : Jn G μ0 H0 μ σ (upd H p o) ρ S := by
  have c : Calm H (upd H p o) := Calm.upd hp
  have k := c.keep
  refine ⟨J.len, fun i d e => ?_, fun i ds e => ?_, ⟨J.cells.len, J.cells.nd, fun n a x h1 h2 => ?_⟩, c.tabs J.tabs, J.pre, J.new, ⟨fun b u h1 h2 h3 => ?_, fun b ps h => ?_⟩⟩
  · obtain ⟨v, h1, h2⟩ := J.sh i d e
    exact ⟨v, h1, Rel.mono (List.prefix_refl _) k _ _ h2⟩
  · obtain ⟨q, ws, h1, h2, h3, h4⟩ := J.ow i ds e
    have : q ≠ p := fun z => f.ow i ds e (z ▸ h1)
    exact ⟨q, ws, h1, by rw [upd_ne this]; exact h2, RelL.mono (List.prefix_refl _) k _ _ h3, h4⟩
  · refine (J.cells.at_ n a x h1 h2).calm k (upd_ne fun z => f.mu ?_)
    rw [← z]; exact List.mem_of_getElem? h1
  · rw [upd_ne (fun z => by rw [z, f.h0] at h1; cases h1)]
    exact J.frm.stay b u h1 h2 h3
  · obtain ⟨m, e⟩ := J.frm.tbl b ps h
    exact ⟨m, by rw [upd_ne (fun z => by rw [z, f.h0] at h; cases h)]; exact e⟩
/-- a slot is stored: a value -/
theorem Jn.setSh (J : Jn G μ0 H0 μ σ H ρ S) {i : Nat} {v : V} {d : D} (r : Rel G μ H v d) (hi : i < ρ.length) : Jn G μ0 H0 μ (σ.set i (some v)) H (ρ.set i (.sh d)) S := by
  have hi' : i < σ.length := by rw [← J.len]; exact hi
  refine ⟨by rw [List.length_set, List.length_set]; exact J.len, fun j e hj => ?_, fun j ds hj => ?_, J.cells, J.tabs, J.pre, J.new, J.frm⟩
  · by_cases h : j = i
    · subst h
      rw [List.getElem?_set_self hi] at hj
      cases hj
      exact ⟨v, List.getElem?_set_self hi', r⟩
    · rw [List.getElem?_set_ne (Ne.symm h)] at hj
      obtain ⟨w, h1, h2⟩ := J.sh j e hj
      exact ⟨w, by rw [List.getElem?_set_ne (Ne.symm h)]; exact h1, h2⟩
  · have h : j ≠ i := fun z => by
      subst z
      rw [List.getElem?_set_self hi] at hj
      cases hj
    rw [List.getElem?_set_ne (Ne.symm h)] at hj
    obtain ⟨p, vs, h1, h2, h3, h4, h5, h6⟩ := J.ow j ds hj
    refine ⟨p, vs, by rw [List.getElem?_set_ne (Ne.symm h)]; exact h1, h2, h3, h4, h5, fun k es hk hs => ?_⟩
    have h' : k ≠ i := fun z => by
      subst z
      rw [List.getElem?_set_self hi] at hk
      cases hk
    rw [List.getElem?_set_ne (Ne.symm h')] at hk hs
    exact h6 k es hk hs
/-- a slot is stored: a list of our own -/
theorem Jn.setOw (J : Jn G μ0 H0 μ σ H ρ S) {i : Nat} {p : Addr} {vs : List V} {ds : List D} (hp : H p = some (.lst vs)) (r : RelL G μ H vs ds) (f : Frs μ0 H0 μ σ ρ p) (hi : i < ρ.length) : Jn G μ0 H0 μ (σ.set i (some (.ref p))) H (ρ.set i (.ow ds)) S := by
  have hi' : i < σ.length := by rw [← J.len]; exact hi
  refine ⟨by rw [List.length_set, List.length_set]; exact J.len, fun j e hj => ?_, fun j es hj => ?_, J.cells, J.tabs, J.pre, J.new, J.frm⟩
  · have h : j ≠ i := fun z => by
      subst z
      rw [List.getElem?_set_self hi] at hj
      cases hj
    rw [List.getElem?_set_ne (Ne.symm h)] at hj
    obtain ⟨w, h1, h2⟩ := J.sh j e hj
    exact ⟨w, by rw [List.getElem?_set_ne (Ne.symm h)]; exact h1, h2⟩
  · by_cases h : j = i
    · subst h
      rw [List.getElem?_set_self hi] at hj
      cases hj
      refine ⟨p, vs, List.getElem?_set_self hi', hp, r, f.mu, f.h0, fun k es hk hs => ?_⟩
      by_cases h' : k = j
      · exact h'
      · rw [List.getElem?_set_ne (Ne.symm h')] at hk hs
        exact absurd hs (f.ow k es hk)
    · rw [List.getElem?_set_ne (Ne.symm h)] at hj
      obtain ⟨q, ws, h1, h2, h3, h4, h5, h6⟩ := J.ow j es hj
      have hqp : q ≠ p := fun z => f.ow j es hj (z ▸ h1)
      refine ⟨q, ws, by rw [List.getElem?_set_ne (Ne.symm h)]; exact h1, h2, h3, h4, h5, fun k fs hk hs => ?_⟩
      by_cases h' : k = i
      · subst h'
        rw [List.getElem?_set_self hi'] at hs
        cases hs
        exact absurd rfl hqp
      · rw [List.getElem?_set_ne (Ne.symm h')] at hk hs
        exact h6 k fs hk hs
/-- a slot's own list is written no more -/
theorem Jn.own (J : Jn G μ0 H0 μ σ H ρ S) {i : Nat} {ds : List D} (e : ρ[i]? = some (.ow ds)) : ∃ p vs, σ[i]? = some (some (.ref p)) ∧ H p = some (.lst vs) ∧ RelL G μ H vs ds ∧ p ∉ μ ∧ H0 p = none ∧ Frs μ0 H0 μ σ (ρ.set i .no) p ∧ Jn G μ0 H0 μ σ H (ρ.set i .no) S := by
  obtain ⟨p, vs, h1, h2, h3, h4, h5, h6⟩ := J.ow i ds e
  have hi : i < ρ.length := (List.getElem?_eq_some_iff.mp e).1
  refine ⟨p, vs, h1, h2, h3, h4, h5, ⟨h4, h5, fun j es hj hs => ?_⟩, ⟨by rw [List.length_set]; exact J.len, fun j f hj => ?_, fun j es hj => ?_, J.cells, J.tabs, J.pre, J.new, J.frm⟩⟩
  · by_cases h : j = i
    · subst h
      rw [List.getElem?_set_self hi] at hj
      cases hj
    · rw [List.getElem?_set_ne (Ne.symm h)] at hj
      exact h (h6 j es hj hs)
  · by_cases h : j = i
    · subst h
      rw [List.getElem?_set_self hi] at hj
      cases hj
    · rw [List.getElem?_set_ne (Ne.symm h)] at hj
      exact J.sh j f hj
  · by_cases h : j = i
    · subst h
      rw [List.getElem?_set_self hi] at hj
      cases hj
    · rw [List.getElem?_set_ne (Ne.symm h)] at hj
      obtain ⟨q, ws, g1, g2, g3, g4, g5, g6⟩ := J.ow j es hj
      refine ⟨q, ws, g1, g2, g3, g4, g5, fun k fs hk hs => ?_⟩
      by_cases h' : k = i
      · subst h'
        rw [List.getElem?_set_self hi] at hk
        cases hk
      · rw [List.getElem?_set_ne (Ne.symm h')] at hk
        exact g6 k fs hk hs
end

section
variable (G : Wd) (ex : Nat → Value) (μ0 : List Addr) (H0 : Hp) (W : WX)
/-- m, from the state of (μ, σ, H) on; RA ties what HandS hands out to what m hands out -/
def TMa {α A : Type} (RA : List Addr → Hp → A → α → Prop) (μ : List Addr) (m : M α) (σ : L2.St) (H : Hp) (Q : A → Hp → Prop) : Prop :=
  ∃ ρ S, Jn G μ0 H0 μ σ H ρ S ∧ (m ρ S).post
    (fun d ρ' S' => ∀ v H' μ', μ <+: μ' → Keep H H' → Jn G μ0 H0 μ' σ H' ρ' S' → RA μ' H' v d → Q v H')
    (fun c ρ' S' => ∀ H' μ', μ <+: μ' → Keep H H' → Jn G μ0 H0 μ' σ H' ρ' S' → W (ex c) none σ H')
def TM {α A : Type} (RA : List Addr → Hp → A → α → Prop) (m : M α) (σ : L2.St) (H : Hp) (Q : A → Hp → Prop) : Prop := ∃ μ, TMa G ex μ0 H0 W RA μ m σ H Q
abbrev RB : List Addr → Hp → Bool → Bool → Prop := fun _ _ a b => a = b
abbrev RO : List Addr → Hp → Option Int → Option Int → Prop := fun _ _ a b => a = b
end
section
variable {G : Wd} {ex : Nat → Value} {μ0 μ : List Addr} {H0 H : Hp} {W : WX} {α β A B : Type} {RA : List Addr → Hp → A → α → Prop} {RB' : List Addr → Hp → B → β → Prop} {σ : L2.St}
theorem TMa.imp {m : M α} {Q Q' : A → Hp → Prop} (h : TMa G ex μ0 H0 W RA μ m σ H Q) (k : ∀ v H', Q v H' → Q' v H') : TMa G ex μ0 H0 W RA μ m σ H Q' := by
  obtain ⟨ρ, S, J, h⟩ := h
  exact ⟨ρ, S, J, h.imp (fun d ρ' S' x v H' μ' p kk J' r => k _ _ (x v H' μ' p kk J' r)) fun _ _ _ x => x⟩
theorem TM.imp {m : M α} {Q Q' : A → Hp → Prop} (h : TM G ex μ0 H0 W RA m σ H Q) (k : ∀ v H', Q v H' → Q' v H') : TM G ex μ0 H0 W RA m σ H Q' := h.elim fun μ x => ⟨μ, x.imp k⟩
theorem TMa.bind {m : M α} {f : α → M β} {Q : B → Hp → Prop} (h : TMa G ex μ0 H0 W RB' μ (m.bind f) σ H Q) :
    TMa G ex μ0 H0 W RA μ m σ H fun v H1 => ∃ d μ1, μ <+: μ1 ∧ Keep H H1 ∧ RA μ1 H1 v d ∧ TMa G ex μ0 H0 W RB' μ1 (f d) σ H1 Q := by
  obtain ⟨ρ, S, J, h⟩ := h
  refine ⟨ρ, S, J, (post_bind h).imp (fun d ρ1 S1 h1 v H1 μ1 p k J1 r => ⟨d, μ1, p, k, r, ρ1, S1, J1, ?_⟩) fun _ _ _ x => x⟩
  exact h1.imp (fun e ρ2 S2 h2 w H2 μ2 p2 k2 J2 r2 => h2 w H2 μ2 (p.trans p2) (k.trans k2) J2 r2) fun c ρ2 S2 h2 H2 μ2 p2 k2 J2 => h2 H2 μ2 (p.trans p2) (k.trans k2) J2
theorem TMa.of {o : Option α} {Q : A → Hp → Prop} (h : TMa G ex μ0 H0 W RA μ (M.of o) σ H Q) : ∃ a, o = some a ∧ ∀ v H', Same H H' → RA μ H' v a → Q v H' := by
  obtain ⟨ρ, S, J, h⟩ := h
  obtain ⟨a, e, h⟩ := post_of h
  exact ⟨a, e, fun v H' s r => h v H' μ (List.prefix_refl _) s.keep (J.same s) r⟩
theorem TMa.ret {a : α} {Q : A → Hp → Prop} (h : TMa G ex μ0 H0 W RA μ (M.pure a) σ H Q) : ∀ v H', Same H H' → RA μ H' v a → Q v H' := by
  obtain ⟨ρ, S, J, h⟩ := h
  exact fun v H' s r => h v H' μ (List.prefix_refl _) s.keep (J.same s) r
theorem TMa.bad {Q : A → Hp → Prop} (h : TMa G ex μ0 H0 W RA μ (fun _ _ => .bad : M α) σ H Q) : False := by
  obtain ⟨ρ, S, J, h⟩ := h
  exact h
end
end Pv
end
section
set_option Elab.async false
set_option linter.all false
set_option maxRecDepth 100000
set_option maxHeartbeats 4000000
namespace Pv
open PySem PySem.Spec PyProof.Rows L2

/-- the names of the program's defs, of its constants -/
structure Nm where
  fn : List Str
  gl : List Str
  xc : List Str
  lam : Bool := false
def visB (sc : Scope) (x : Str) : Bool := match sc.names.lookup x with
  | some .local | some .cell | some .free => true
  | _ => false
def glbB (sc : Scope) (x : Str) : Bool := decide (sc.names.lookup x = some .globalImplicit)
def locB (top : Bool) (sc : Scope) (x : Str) : Bool := match sc.names.lookup x with
  | some .local => true
  | some .cell => top
  | _ => false
def varB (N : List Str) (sc : Scope) (i : Nat) (x : Str) : Bool := decide (N[i]? = some x) && visB sc x && !(x == ("__debug__" : Str)) && !(x == ("__classdict__" : Str))
def stB (top : Bool) (N : List Str) (sc : Scope) (i : Nat) (x : Str) : Bool := decide (N[i]? = some x) && locB top sc x
def notStar : Expr → Bool
  | .Starred .. => false
  | _ => true
def notSlice : Expr → Bool
  | .Slice .. => false
  | _ => true
def notIf : Expr → Bool
  | .IfExp .. => false
  | _ => true
def notSet : Expr → Bool
  | .Set .. => false
  | _ => true
def isTup : Expr → Bool
  | .Tuple .. => true
  | _ => false
def Blt.nm : Blt → Str
  | .len => "len" | .abs => "abs" | .max => "max" | .min => "min" | .all => "all" | .any => "any" | .sum => "sum" | .tuple => "tuple" | .list => "list" | .int => "int" | .str => "str" | .bool => "bool"
def Ty.nm : Ty → Str
  | .int => "int" | .bool => "bool" | .tuple => "tuple" | .str => "str" | .list => "list"
def Met.nm : Met → Str
  | .split => "split" | .join => "join" | .index => "index"
def ownOf (N : List Str) (l : List Nat) : List (Str × Nat) := l.map fun i => (N.getD i Str.empty, i)

/-- no parameter -/
def lamPB : Arguments → Bool
  | ⟨[], [], none, [], [], none, []⟩ => true
  | _ => false
/-- expressions that make a list of their own -/
def frE : E → Bool
  | .lst _ | .comp .. | .callo .. => true
  | .bin o _ _ => decide (o = .add)
  | _ => false
section
variable (g : Nm) (N : List Str)
mutual
def ckE : E → Scope → Expr → Bool
  | .vr i, sc, .Name x _ => varB N sc i x
  | .fz i, sc, .Name x _ => varB N sc i x
  | .non, _, .Constant .none _ _ => true
  | .bl b, _, .Constant (.bool c) _ _ => decide (b = c)
  | .int i, _, .Constant (.int j) _ _ => decide (i = j)
  | .str a, _, .Constant (.str b) _ _ => decide (a = b)
  | .gl k, sc, .Name x _ => decide (g.gl[k]? = some x) && glbB sc x && !(x == ("__debug__" : Str))
  | .tup es, sc, .Tuple ps _ _ => ckEs es sc ps
  | .lst es, sc, .List ps _ => ckEs es sc ps
  | .bin o a b, sc, .BinOp pa op pb _ => decide (o.py = op) && ckE a sc pa && ckE b sc pb
  | .pow i j, _, .BinOp (.Constant (.int i') _ _) .Pow (.Constant (.int j') _ _) _ => decide (i = i') && decide (j = j')
  | .neg a, sc, .UnaryOp .USub pa _ => ckE a sc pa
  | .cmp o a b, sc, .Compare pa [op] [pb] _ => decide (o.py = op) && ckE a sc pa && ckE b sc pb && !(behindInMarks op pb)
  | .chn o1 o2 a b c, sc, .Compare pa [op1, op2] [pb, pc] _ => decide (o1.py = op1) && decide (o2.py = op2) && ckE a sc pa && ckE b sc pb && ckE c sc pc && !(lastMarks [op1, op2] [pb, pc])
  | .isn neg a, sc, .Compare pa [op] [.Constant .none _ _] _ => decide (op = if neg then .IsNot else .Is) && ckE a sc pa
  | .isb neg a b, sc, .Compare pa [op] [.Constant (.bool c) _ _] _ => decide (op = if neg then .IsNot else .Is) && ckE a sc pa && decide (b = c)
  | .and a b, sc, .BoolOp .And (x :: y :: r) pos => ckE a sc x && notIf x && ckE b sc (.BoolOp .And (y :: r) pos)
  | .or a b, sc, .BoolOp .Or (x :: y :: r) pos => ckE a sc x && notIf x && ckE b sc (.BoolOp .Or (y :: r) pos)
  | .one a, sc, .BoolOp _ [y] _ => ckE a sc y && notIf y
  | .not a, sc, .UnaryOp .Not pa _ => ckE a sc pa && notIf pa
  | .ife c a b, sc, .IfExp pc pa pb _ => ckE c sc pc && notIf pc && ckE a sc pa && ckE b sc pb
  | .ix a i, sc, .Subscript pa pi _ => ckE a sc pa && ckE i sc pi && notSlice pi
  | .ixo n i, sc, .Subscript (.Name x _) pi _ => varB N sc n x && ckE i sc pi && notSlice pi
  | .leno n, sc, .Call (.Name f _) [.Name x _] [] _ => decide (f = "len") && glbB sc "len" && varB N sc n x
  | .tupo n, sc, .Call (.Name f _) [.Name x _] [] _ => decide (f = "tuple") && glbB sc "tuple" && varB N sc n x
  | .emo neg n, sc, .Compare (.Name x _) [op] [.List [] _] _ => decide (op = if neg then .NotEq else .Eq) && varB N sc n x
  | .sl a lo hi, sc, .Subscript pa (.Slice pl ph none _) _ => ckE a sc pa && ckO lo sc pl && ckO hi sc ph
  | .call f es, sc, .Call (.Name x _) ps [] _ => decide (g.fn[f]? = some x) && glbB sc x && !(x == ("__debug__" : Str)) && ckEs es sc ps
  | .rv a, sc, .Subscript pa (.Slice none none (some (.UnaryOp .USub (.Constant (.int 1) 0 _) _)) _) _ => ckE a sc pa
  | .inr neg a lo hi, sc, .Compare pa [op] [.Call (.Name x _) [.Constant (.int l) 0 _, .Constant (.int h) 0 _] [] _] _ => decide (op = if neg then .NotIn else .In) && decide (x = "range") && glbB sc "range" && decide (l = lo) && decide (h = hi) && ckE a sc pa
  | .idx a b, sc, .Call (.Attribute (.Name ix ip) m apos) [pb] [] cpos => decide (m = "index") && ckE a sc (.Name ix ip) && ckE b sc pb && notStar pb && (apos.endLine == cpos.line)
  | .err f es, sc, .Call (.Name nm _) [.Lambda pr (.Call (.Name x _) ps [] _) ls _] [] _ => g.lam && decide (nm = "_law_error") && glbB sc "_law_error" && lamPB pr && LamX.lamSB sc ls && decide (g.fn[f]? = some x) && glbB ls x && !(x == ("__debug__" : Str)) && ckEs es ls ps && !(glbB ls "_law_error")
  | .newc e, sc, .Call f ps ks pos => ckE e sc (.Call f ps ks pos) && frE e
  | .callo f es, sc, .Call (.Name x _) ps [] _ => decide (g.fn[f]? = some x) && glbB sc x && !(x == ("__debug__" : Str)) && ckEs es sc ps
  | .sst e, sc, .Call (.Name s _) [.Call (.Name t _) [pe] [] _] [] _ => decide (s = "sorted") && decide (t = "set") && glbB sc "sorted" && glbB sc "set" && ckE e sc pe && notStar pe
  | .sln e, sc, .Call (.Name s _) [.Call (.Name t _) [pe] [] _] [] _ => decide (s = "len") && decide (t = "set") && glbB sc "len" && glbB sc "set" && ckE e sc pe && notStar pe
  | .blt b es, sc, .Call (.Name x _) ps [] _ => decide (x = b.nm) && glbB sc x && ckEs es sc ps && !ps.isEmpty
  | .isi a t, sc, .Call (.Name f _) [pa, .Name x _] [] _ => decide (f = "isinstance") && glbB sc "isinstance" && decide (x = t.nm) && glbB sc x && ckE a sc pa && notStar pa
  | .comp own e tg it c, sc, .ListComp pe [⟨ptg, pit, pifs, 0⟩] scope _ => blkC N sc scope (ownOf N own) && (own.all fun i => i < N.length) && ((Tg.sl tg).all fun j => own.contains j) && ckT false tg (relS scope sc) ptg && ckI it sc ptg pit && notSet pit && ckE e (relS scope sc) pe && ckC c (relS scope sc) pifs && !(glbB (relS scope sc) "_law_error")
  | .popc n, sc, .Call (.Attribute (.Name x _) m apos) [.Constant (.int 0) _ _] [] cpos => decide (m = "pop") && varB N sc n x && (apos.endLine == cpos.line)
  | .emc neg n, sc, .Compare (.Name x _) [op] [.List [] _] _ => decide (op = if neg then .NotEq else .Eq) && varB N sc n x
  | .app n a, sc, .Call (.Attribute (.Name x _) m apos) [pa] [] cpos => decide (m = "append") && varB N sc n x && ckE a sc pa && notStar pa && (apos.endLine == cpos.line)
  | _, _, _ => false
def ckEs : Es → Scope → List Expr → Bool
  | .nil, _, [] => true
  | .cons e es, sc, p :: ps => ckE e sc p && notStar p && ckEs es sc ps
  | _, _, _ => false
def ckO : EO → Scope → Option Expr → Bool
  | .non, _, none => true
  | .som e, sc, some p => ckE e sc p
  | _, _, _ => false
def ckC : EO → Scope → List Expr → Bool
  | .non, _, [] => true
  | .som e, sc, [p] => ckE e sc p && notIf p
  | _, _, _ => false
def ckI : It → Scope → Expr → Expr → Bool
  | .seq e, sc, _, p => ckE e sc p
  | .rng e, sc, _, .Call (.Name x _) [p] [] _ => decide (x = "range") && glbB sc "range" && ckE e sc p && notStar p
  | .rng2 a b, sc, _, .Call (.Name x _) [p, q] [] _ => decide (x = "range") && glbB sc "range" && ckE a sc p && notStar p && ckE b sc q && notStar q
  | .enm e, sc, tg, .Call (.Name x _) [p] [] _ => decide (x = "enumerate") && glbB sc "enumerate" && ckE e sc p && notStar p && isTup tg
  | .zip a b, sc, tg, .Call (.Name x _) [p, q] [] _ => decide (x = "zip") && glbB sc "zip" && ckE a sc p && notStar p && ckE b sc q && notStar q && isTup tg
  | _, _, _, _ => false
def ckT (top : Bool) : Tg → Scope → Expr → Bool
  | .nm i, sc, .Name x _ => stB top N sc i x
  | .tp ts, sc, .Tuple ps _ _ => ckTs top ts sc ps
  | _, _, _ => false
def ckTs (top : Bool) : Tgs → Scope → List Expr → Bool
  | .nil, _, [] => true
  | .cons t ts, sc, p :: ps => ckT top t sc p && notStar p && ckTs top ts sc ps
  | _, _, _ => false
end
end
end Pv
end
section
set_option Elab.async false
set_option linter.all false
set_option maxRecDepth 100000
set_option maxHeartbeats 4000000
namespace Pv
open PySem PySem.Spec PyProof.Rows L2

/-- the words of the flags that are set -/
def pickW : List Str → List Bool → List Str
  | w :: ws, b :: bs => if b then w :: pickW ws bs else pickW ws bs
  | _, _ => []
/-- what the class D of the caught error is to the classes cs -/
structure ErrK (K : PySem.W.Frag) (mg : Str → Option Value) (D : Addr) (cs : List Str) (bs : List Bool) : Prop where
  ec : ExcC K D
  cls : ∀ (i : Nat) (nm : Str), cs[i]? = some nm → ∃ C b, mg nm = some (.ref C) ∧ bs[i]? = some b ∧ PySem.W.kitOne K (.ref D) (.ref C) = some b
  len : bs.length = cs.length
  ve : PySem.W.kitOne K (.ref D) (.type "ValueError") = some true
  m1 : mg "isinstance" = none
  m2 : mg "zip" = none
  m3 : mg "ValueError" = none
/-- isinstance(e, c) -/
def isB (sc : Scope) (N : List Str) (c : Str) : Expr → Bool
  | .Call (.Name f _) [.Name e _, .Name x _] [] _ => decide (f = "isinstance") && glbB sc "isinstance" && varB N sc 0 e && decide (x = c) && glbB sc c && !(c == ("__debug__" : Str))
  | _ => false
def errCs : List Str := ["InvalidScript", "InvalidPair", "InvalidPaces", "InvalidWalker", "InvalidNumber", "InvalidFacts", "InvalidText", "NoRatio", "NothingToUndo"]
def errWs : Str := "script pair paces walker number facts text ratio undo value"
def addB (sc : Scope) (N : List Str) (a b : Str) : Bool := stB true N sc 1 a && varB N sc 1 b
/-- the def that tells the name: slots e, some, words, word, good -/
def namB (N : List Str) (sc : Scope) : List Stmt → Bool
  | [.Assign [.Name a1 _] (.List [i1, i2, i3] _) _, .Assign [.Name a2 _] (.BinOp (.Name b2 _) .Add (.List [i4, i5, i6] _) _) _, .Assign [.Name a3 _] (.BinOp (.Name b3 _) .Add (.List [i7, i8, i9] _) _) _,
     .Assign [.Name wn _] (.Constant (.str ws) _ _) _, .Assign [.Name a5 _] (.BinOp (.Name b5 _) .Add (.List [i10] _) _) _,
     .Return (some (.Call (.Attribute (.Constant (.str sp) _ _) m1 ap1) [.ListComp (.Name v1 _) [⟨.Tuple [.Name v2 _, .Name v3 _] _ _, .Call (.Name z _) [.Call (.Attribute (.Name wn2 _) m2 ap2) [.Constant (.str sp2) _ _] [] cp2, .Name a6 _] [] zp2, [.Name g _], 0⟩] scope _] [] cp1)) _] =>
      isB sc N "InvalidScript" i1 && isB sc N "InvalidPair" i2 && isB sc N "InvalidPaces" i3 && isB sc N "InvalidWalker" i4 && isB sc N "InvalidNumber" i5 && isB sc N "InvalidFacts" i6 && isB sc N "InvalidText" i7 && isB sc N "NoRatio" i8 && isB sc N "NothingToUndo" i9 && isB sc N "ValueError" i10 &&
      stB true N sc 1 a1 && addB sc N a2 b2 && addB sc N a3 b3 && addB sc N a5 b5 && varB N sc 1 a6 && stB true N sc 2 wn && varB N sc 2 wn2 && decide (ws = errWs) && decide (sp = " ") && decide (sp2 = " ") && decide (m1 = "join") && decide (m2 = "split") && (ap1.endLine == cp1.line) && (ap2.endLine == cp2.line) && decide (z = "zip") && glbB sc "zip" &&
      blkC N sc scope [(N.getD 3 Str.empty, 3), (N.getD 4 Str.empty, 4)] && varB N (relS scope sc) 3 v1 && stB false N (relS scope sc) 3 v2 && stB false N (relS scope sc) 4 v3 && varB N (relS scope sc) 4 g && decide (N.length = 5)
  | _ => false
/-- its caller: slots call, e -/
def errB (N : List Str) (sc : Scope) : List Stmt → Bool
  | [.Try [.Expr (.Call (.Name a _) [] [] _) _] [.ExceptHandler (some (.Name x _)) (some n) [.Return (some (.Call (.Name f _) [.Name e _] [] _)) _] _] [] [] _, .Return (some (.Constant (.str em) _ _)) _] =>
      varB N sc 0 a && decide (x = "SpeedError") && glbB sc "SpeedError" && decide (N[1]? = some n) && decide (sc.names.lookup n = some .local) && decide (f = "_law_named_error") && glbB sc "_law_named_error" && varB N sc 1 e && decide (em = Str.empty) && decide (N.length = 2)
  | _ => false
/-- facts of the two defs, of the errors' classes -/
structure ErrF (K : PySem.W.Frag) (mg : Str → Option Value) (ex : Nat → Value) : Prop where
  nam : ∃ (N : List Str) (p : Str) (st : Stmt) (h : Addr) (fd : FuncData), FunD K "_law_named_error" "_law_named_error" (defArgs st) (defBody st) (defScope st) [] [] h fd ∧ mg "_law_named_error" = some (.ref h) ∧ Binds K fd [p] [] ∧ FnScope N [p] (defScope st) ∧ namB N (defScope st) (defBody st) = true
  err : ∃ (N : List Str) (p : Str) (st : Stmt) (g : Addr) (fd : FuncData), FunD K "_law_error" "_law_error" (defArgs st) (defBody st) (defScope st) [] [] g fd ∧ mg "_law_error" = some (.ref g) ∧ Binds K fd [p] [] ∧ FnScope N [p] (defScope st) ∧ errB N (defScope st) (defBody st) = true
  spd : ∃ CS, mg "SpeedError" = some (.ref CS) ∧ ∀ (n : Nat) (nm : Str), errN n = some nm → ∃ D bs, ex n = .ref D ∧ ErrK K mg D errCs bs ∧ PySem.W.exmOne K (.ref D) (.ref CS) = some true ∧ Txt.join (Str.ofString " ") (pickW (Txt.split errWs (Str.ofString " ")) (bs ++ [true])) = nm
/-- a place where lambdas stand -/
structure LamF (G : Wd) (ex : Nat → Value) (lv : Nat) (X : Cx) : Prop where
  tab : ∃ c P, LamX.TabB X.base X.mg c P ∧ X.env.code = .ref c ∧ (P, X.env.qual ++ "<lambda>") ∈ G.T ∧ ∀ p ∈ G.T, p.1 = P → p.2 = X.env.qual ++ "<lambda>"
  room : Room (lv + 2) X.A
  err : ErrF X.K X.mg ex
end Pv
end
section
set_option Elab.async false
set_option linter.all false
set_option maxRecDepth 100000
set_option maxHeartbeats 4000000
namespace Pv
open PySem PySem.Spec PyProof.Rows L2 He
/-- what the text says of a def -/
structure Sd0 where
  name : Str
  N : List Str
  ps : List Str
  params : Arguments
  body : List Stmt
  scope : Scope
  lam : Bool := false
def dD (s : Sd0) : DefD := ⟨(s.name, none), s.name, s.name, s.params, s.body, s.scope, [], []⟩
def bltNs : List Str := ["len", "abs", "max", "min", "all", "any", "sum", "tuple", "list", "int", "str", "bool", "set", "sorted", "isinstance", "range", "enumerate", "zip"]
/-- facts: defs, built-ins not overlaid, error classes, intL -/
def faOf (Sds : List Sd0) (xcs : List Str) (intL : List (Str × Int)) : List Fa :=
  Sds.map (fun s => .glo s.name) ++ bltNs.map .free ++ xcs.map .exc ++ xcs.map .glo ++ intL.map (fun q => .int q.1 q.2) ++ errCs.map (fun x => .exm x "SpeedError" true) ++ [.free "ValueError"]
def excB (K : PySem.W.Frag) (D : Addr) : Bool :=
  eqO (PySem.W.findIn K (.ref D) "__getattribute__") (some (some (.builtin "BaseException.__getattribute__"))) && eqO (PySem.W.findIn K (.ref D) "__getattr__") (some none) && decide (PySem.W.subIn K (.ref D) (.type "BaseException") = some true) && PySem.W.hasDictIn K D &&
  eqO (PySem.W.findIn K (.ref D) "__class__") (some (some (.builtin "object.__class__"))) && eqO (PySem.W.specialIn K (.builtin "object.__class__") "__get__") (some (some (.builtin "getset_descriptor.__get__"))) && decide (PySem.W.takesIn K (.builtin "object.__class__") = some true) && decide (PySem.W.mroIn K D (.type "object") = some true)
/-- the errors' classes among themselves -/
def exB (K : PySem.W.Frag) : Bool := errCs.all fun x => excB K (ga K x) && (errCs.all fun y => decide (PySem.W.kitOne K (.ref (ga K x)) (.ref (ga K y)) = some (decide (x = y)))) && decide (PySem.W.kitOne K (.ref (ga K x)) (.type "ValueError") = some true)
def tabNd (tf : List Str) (K : PySem.W.Frag) : Bool := decide (tf.map fun x => (cT K (x, none)).2).Nodup
end Pv
end
section
set_option Elab.async false
set_option linter.all false
set_option maxRecDepth 100000
set_option maxHeartbeats 4000000
namespace Lw
open PySem Pv
abbrev i_divisor_of : Nat := 0
def lc_divisor_of_0 : E := (.cmp .ne (.vr 1) (.int 0))
def lb_divisor_of_0 : Ss := (.cons (.par 0 1 false false (.vr 1) (.bin .mod (.vr 0) (.vr 1))) .nil)
def d_divisor_of : Df := ⟨2, 2, (.cons (.par 0 1 false false (.blt .abs (.cons (.vr 0) .nil)) (.blt .abs (.cons (.vr 1) .nil))) (.cons (.whl lc_divisor_of_0 lb_divisor_of_0) (.cons (.ret (.vr 0)) .nil)))⟩
abbrev i_lowest : Nat := 1
def d_lowest : Df := ⟨2, 3, (.cons (.set (.nm 2) (.call 0 (.cons (.vr 0) (.cons (.vr 1) .nil)))) (.cons (.ret (.tup (.cons (.bin .fdiv (.vr 0) (.vr 2)) (.cons (.bin .fdiv (.vr 1) (.vr 2)) .nil)))) .nil))⟩
abbrev i_worth : Nat := 2
def d_worth : Df := ⟨2, 2, (.cons (.ret (.bin .add (.bin .mul (.ix (.vr 0) (.int 0)) (.ix (.vr 1) (.int 0))) (.bin .mul (.ix (.vr 0) (.int 1)) (.ix (.vr 1) (.int 1))))) .nil)⟩
abbrev i_is_plain : Nat := 3
def d_is_plain : Df := ⟨1, 1, (.cons (.ret (.and (.isi (.vr 0) .int) (.one (.not (.isi (.vr 0) .bool))))) .nil)⟩
abbrev i_is_whole : Nat := 4
def d_is_whole : Df := ⟨3, 3, (.cons (.ret (.and (.call 3 (.cons (.vr 0) .nil)) (.one (.chn .le .le (.vr 1) (.vr 0) (.vr 2))))) .nil)⟩
abbrev i_is_leg : Nat := 5
def d_is_leg : Df := ⟨1, 1, (.cons (.ite (.or (.not (.isi (.vr 0) .tuple)) (.or (.cmp .ne (.blt .len (.cons (.vr 0) .nil)) (.int 2)) (.one (.not (.isi (.ix (.vr 0) (.int 0)) .str))))) (.cons (.ret (.bl false)) .nil) .nil) (.cons (.ite (.cmp .eq (.ix (.vr 0) (.int 0)) (.str "to")) (.cons (.ret (.call 4 (.cons (.ix (.vr 0) (.int 1)) (.cons (.int 0) (.cons (.gl 0) .nil))))) .nil) .nil) (.cons (.ret (.and (.cmp .eq (.ix (.vr 0) (.int 0)) (.str "wait")) (.one (.call 4 (.cons (.ix (.vr 0) (.int 1)) (.cons (.int 1) (.cons (.int 6) .nil))))))) .nil)))⟩
abbrev i_is_script : Nat := 6
def ct_is_script_0 : Tg := (.nm 5)
def ce_is_script_0 : E := (.call 5 (.cons (.vr 5) .nil))
def lt_is_script_1 : Tg := (.tp (.cons (.nm 3) (.cons (.nm 4) .nil)))
def lb_is_script_1 : Ss := (.cons (.ite (.cmp .eq (.vr 3) (.str "to")) (.cons (.ite (.cmp .eq (.vr 4) (.vr 1)) (.cons (.ret (.bl false)) .nil) .nil) (.cons (.set (.nm 1) (.vr 4)) .nil)) .nil) .nil)
def d_is_script : Df := ⟨1, 6, (.cons (.ite (.or (.not (.isi (.vr 0) .tuple)) (.or (.cmp .ne (.blt .len (.cons (.vr 0) .nil)) (.int 2)) (.one (.not (.call 4 (.cons (.ix (.vr 0) (.int 0)) (.cons (.int 0) (.cons (.gl 0) .nil)))))))) (.cons (.ret (.bl false)) .nil) .nil) (.cons (.set (.tp (.cons (.nm 1) (.cons (.nm 2) .nil))) (.vr 0)) (.cons (.ite (.or (.not (.isi (.vr 2) .tuple)) (.or (.cmp .gt (.blt .len (.cons (.vr 2) .nil)) (.int 6)) (.one (.not (.blt .all (.cons (.comp [5] ce_is_script_0 ct_is_script_0 (.seq (.vr 2)) .non) .nil)))))) (.cons (.ret (.bl false)) .nil) .nil) (.cons (.for_ lt_is_script_1 (.seq (.vr 2)) lb_is_script_1) (.cons (.ret (.bl true)) .nil)))))⟩
abbrev i_is_pair : Nat := 7
def ct_is_pair_0 : Tg := (.nm 1)
def ce_is_pair_0 : E := (.call 6 (.cons (.vr 1) .nil))
def lt_is_pair_1 : Tg := (.tp (.cons (.nm 1) (.cons (.nm 2) .nil)))
def ct_is_pair_2 : Tg := (.tp (.cons (.nm 3) (.cons (.nm 4) .nil)))
def ce_is_pair_2 : E := (.and (.cmp .eq (.vr 3) (.str "wait")) (.one (.cmp .gt (.vr 4) (.blt .len (.cons (.ix (.vr 2) (.int 1)) .nil)))))
def lb_is_pair_1 : Ss := (.cons (.ite (.blt .any (.cons (.comp [3, 4] ce_is_pair_2 ct_is_pair_2 (.seq (.ix (.vr 1) (.int 1))) .non) .nil)) (.cons (.ret (.bl false)) .nil) .nil) .nil)
def d_is_pair : Df := ⟨1, 5, (.cons (.ite (.or (.not (.isi (.vr 0) .tuple)) (.or (.cmp .ne (.blt .len (.cons (.vr 0) .nil)) (.int 2)) (.one (.not (.blt .all (.cons (.comp [1] ce_is_pair_0 ct_is_pair_0 (.seq (.vr 0)) .non) .nil)))))) (.cons (.ret (.bl false)) .nil) .nil) (.cons (.for_ lt_is_pair_1 (.seq (.tup (.cons (.vr 0) (.cons (.rv (.vr 0)) .nil)))) lb_is_pair_1) (.cons (.ret (.bl true)) .nil)))⟩
abbrev i_need_pair : Nat := 8
def d_need_pair : Df := ⟨1, 1, (.cons (.ite (.not (.call 7 (.cons (.vr 0) .nil))) (.cons (.raise 2) .nil) .nil) .nil)⟩
abbrev i_need_paces : Nat := 9
def ct_need_paces_0 : Tg := (.nm 1)
def ce_need_paces_0 : E := (.call 4 (.cons (.vr 1) (.cons (.int 1) (.cons (.gl 1) .nil))))
def d_need_paces : Df := ⟨1, 2, (.cons (.ite (.or (.not (.isi (.vr 0) .tuple)) (.or (.cmp .ne (.blt .len (.cons (.vr 0) .nil)) (.int 2)) (.one (.not (.blt .all (.cons (.comp [1] ce_need_paces_0 ct_need_paces_0 (.seq (.vr 0)) .non) .nil)))))) (.cons (.raise 3) .nil) .nil) .nil)⟩
abbrev i_need_walk : Nat := 10
def d_need_walk : Df := ⟨2, 2, (.cons (.ex (.call 8 (.cons (.vr 0) .nil))) (.cons (.ex (.call 9 (.cons (.vr 1) .nil))) .nil))⟩
abbrev i_need_walker : Nat := 11
def d_need_walker : Df := ⟨1, 1, (.cons (.ite (.not (.call 4 (.cons (.vr 0) (.cons (.int 0) (.cons (.int 1) .nil))))) (.cons (.raise 4) .nil) .nil) .nil)⟩
abbrev i_minus : Nat := 12
def d_minus : Df := ⟨2, 2, (.cons (.ret (.tup (.cons (.bin .sub (.ix (.vr 0) (.int 0)) (.ix (.vr 1) (.int 0))) (.cons (.bin .sub (.ix (.vr 0) (.int 1)) (.ix (.vr 1) (.int 1))) .nil)))) .nil)⟩
abbrev i_walked : Nat := 13
def d_walked : Df := ⟨3, 3, (.cons (.ret (.ife (.cmp .eq (.vr 1) (.int 0)) (.tup (.cons (.bin .add (.ix (.vr 0) (.int 0)) (.vr 2)) (.cons (.ix (.vr 0) (.int 1)) .nil))) (.tup (.cons (.ix (.vr 0) (.int 0)) (.cons (.bin .add (.ix (.vr 0) (.int 1)) (.vr 2)) .nil))))) .nil)⟩
abbrev i_place_ahead : Nat := 14
def ct_place_ahead_0 : Tg := (.tp (.cons (.nm 3) (.cons (.nm 4) .nil)))
def ce_place_ahead_0 : E := (.vr 4)
def cc_place_ahead_0 : EO := (.som (.cmp .eq (.vr 3) (.str "to")))
def d_place_ahead : Df := ⟨2, 5, (.cons (.set (.nm 2) (.bin .add (.lst (.cons (.ix (.vr 0) (.int 0)) .nil)) (.comp [3, 4] ce_place_ahead_0 ct_place_ahead_0 (.seq (.sl (.ix (.vr 0) (.int 1)) .non (.som (.vr 1)))) cc_place_ahead_0))) (.cons (.ret (.ix (.vr 2) (.neg (.int 1)))) .nil))⟩
abbrev i_more_times : Nat := 15
def d_more_times : Df := ⟨5, 8, (.cons (.set (.nm 5) (.bin .sub (.blt .len (.cons (.vr 2) .nil)) (.int 1))) (.cons (.ite (.cmp .eq (.vr 5) (.blt .len (.cons (.ix (.vr 0) (.int 1)) .nil))) (.cons (.ret (.vr 2)) .nil) .nil) (.cons (.set (.tp (.cons (.nm 6) (.cons (.nm 7) .nil))) (.ix (.ix (.vr 0) (.int 1)) (.vr 5))) (.cons (.ite (.cmp .eq (.vr 6) (.str "to")) (.cons (.ret (.bin .add (.vr 2) (.lst (.cons (.call 13 (.cons (.ix (.vr 2) (.neg (.int 1))) (.cons (.vr 1) (.cons (.blt .abs (.cons (.bin .sub (.vr 7) (.call 14 (.cons (.vr 0) (.cons (.vr 5) .nil)))) .nil)) .nil)))) .nil)))) .nil) .nil) (.cons (.ite (.cmp .lt (.vr 7) (.blt .len (.cons (.vr 3) .nil))) (.cons (.ret (.bin .add (.vr 2) (.lst (.cons (.ife (.cmp .gt (.call 2 (.cons (.ix (.vr 3) (.vr 7)) (.cons (.vr 4) .nil))) (.call 2 (.cons (.ix (.vr 2) (.neg (.int 1))) (.cons (.vr 4) .nil)))) (.ix (.vr 3) (.vr 7)) (.ix (.vr 2) (.neg (.int 1)))) .nil)))) .nil) .nil) (.cons (.ret (.vr 2)) .nil))))))⟩
abbrev i_times_at : Nat := 16
def lc_times_at_0 : E := (.bl true)
def lb_times_at_0 : Ss := (.cons (.set (.nm 4) (.bin .add (.blt .len (.cons (.vr 2) .nil)) (.blt .len (.cons (.vr 3) .nil)))) (.cons (.set (.nm 2) (.call 15 (.cons (.ix (.vr 0) (.int 0)) (.cons (.int 0) (.cons (.vr 2) (.cons (.vr 3) (.cons (.vr 1) .nil))))))) (.cons (.set (.nm 3) (.call 15 (.cons (.ix (.vr 0) (.int 1)) (.cons (.int 1) (.cons (.vr 3) (.cons (.vr 2) (.cons (.vr 1) .nil))))))) (.cons (.ite (.cmp .eq (.bin .add (.blt .len (.cons (.vr 2) .nil)) (.blt .len (.cons (.vr 3) .nil))) (.vr 4)) (.cons (.ret (.lst (.cons (.vr 2) (.cons (.vr 3) .nil)))) .nil) .nil) .nil))))
def d_times_at : Df := ⟨2, 5, (.cons (.par 2 3 false false (.lst (.cons (.tup (.cons (.int 0) (.cons (.int 0) .nil))) .nil)) (.lst (.cons (.tup (.cons (.int 0) (.cons (.int 0) .nil))) .nil))) (.cons (.whl lc_times_at_0 lb_times_at_0) .nil))⟩
abbrev i_moves_of : Nat := 17
def lt_moves_of_0 : Tg := (.nm 3)
def lb_moves_of_0 : Ss := (.cons (.set (.tp (.cons (.nm 6) (.cons (.nm 7) .nil))) (.ix (.ix (.vr 0) (.int 1)) (.vr 3))) (.cons (.set (.nm 4) (.call 14 (.cons (.vr 0) (.cons (.vr 3) .nil)))) (.cons (.set (.nm 5) (.ife (.cmp .eq (.vr 6) (.str "wait")) (.int 0) (.ife (.cmp .gt (.vr 7) (.vr 4)) (.int 1) (.neg (.int 1))))) (.cons (.ex (.app 2 (.tup (.cons (.ix (.vr 1) (.vr 3)) (.cons (.ix (.vr 1) (.bin .add (.vr 3) (.int 1))) (.cons (.vr 4) (.cons (.vr 5) .nil))))))) .nil))))
def d_moves_of : Df := ⟨2, 8, (.cons (.own 2 (.lst .nil)) (.cons (.for_ lt_moves_of_0 (.rng (.bin .sub (.blt .len (.cons (.vr 1) .nil)) (.int 1))) lb_moves_of_0) (.cons (.ex (.app 2 (.tup (.cons (.ix (.vr 1) (.neg (.int 1))) (.cons .non (.cons (.call 14 (.cons (.vr 0) (.cons (.bin .sub (.blt .len (.cons (.vr 1) .nil)) (.int 1)) .nil))) (.cons (.int 0) .nil))))))) (.cons (.ret (.fz 2)) .nil))))⟩
abbrev i_done_at : Nat := 18
def ct_done_at_0 : Tg := (.nm 2)
def ct_done_at_1 : Tg := (.nm 3)
def ce_done_at_1 : E := (.call 2 (.cons (.vr 3) (.cons (.vr 1) .nil)))
def ce_done_at_0 : E := (.comp [3] ce_done_at_1 ct_done_at_1 (.seq (.sl (.vr 2) (.som (.int 1)) .non)) .non)
def d_done_at : Df := ⟨2, 4, (.cons (.ex (.call 10 (.cons (.vr 0) (.cons (.vr 1) .nil)))) (.cons (.ret (.blt .tuple (.cons (.comp [2] ce_done_at_0 ct_done_at_0 (.seq (.call 16 (.cons (.vr 0) (.cons (.vr 1) .nil)))) .non) .nil))) .nil))⟩
abbrev i_place_then : Nat := 19
def lt_place_then_0 : Tg := (.tp (.cons (.nm 4) (.cons (.nm 5) (.cons (.nm 6) (.cons (.nm 7) .nil)))))
def lb_place_then_0 : Ss := (.cons (.ite (.or (.isn false (.vr 5)) (.one (.cmp .lt (.vr 2) (.call 2 (.cons (.vr 5) (.cons (.vr 3) .nil)))))) (.cons (.ret (.tup (.cons (.bin .add (.bin .mul (.vr 6) (.vr 1)) (.bin .mul (.vr 7) (.bin .sub (.vr 2) (.call 2 (.cons (.vr 4) (.cons (.vr 3) .nil)))))) (.cons (.vr 1) .nil)))) .nil) .nil) .nil)
def d_place_then : Df := ⟨4, 8, (.cons (.for_ lt_place_then_0 (.seq (.vr 0)) lb_place_then_0) (.cons (.ret (.tup (.cons (.int 0) (.cons (.vr 1) .nil)))) .nil))⟩
abbrev i_need_time : Nat := 20
def d_need_time : Df := ⟨1, 1, (.cons (.ite (.or (.not (.call 3 (.cons (.vr 0) .nil))) (.one (.cmp .lt (.vr 0) (.int 0)))) (.cons (.raise 5) .nil) .nil) .nil)⟩
abbrev i_place_at : Nat := 21
def d_place_at : Df := ⟨4, 6, (.cons (.ex (.call 10 (.cons (.vr 0) (.cons (.vr 1) .nil)))) (.cons (.ex (.call 11 (.cons (.vr 2) .nil))) (.cons (.ex (.call 20 (.cons (.vr 3) .nil))) (.cons (.set (.tp (.cons (.nm 4) (.cons (.nm 5) .nil))) (.call 19 (.cons (.call 17 (.cons (.ix (.vr 0) (.vr 2)) (.cons (.ix (.call 16 (.cons (.vr 0) (.cons (.vr 1) .nil))) (.vr 2)) .nil))) (.cons (.ix (.vr 1) (.vr 2)) (.cons (.vr 3) (.cons (.vr 1) .nil)))))) (.cons (.ret (.call 1 (.cons (.vr 4) (.cons (.vr 5) .nil)))) .nil)))))⟩
abbrev i_constant : Nat := 22
def d_constant : Df := ⟨2, 2, (.cons (.set (.tp (.cons (.nm 0) (.cons (.nm 1) .nil))) (.call 1 (.cons (.vr 0) (.cons (.vr 1) .nil)))) (.cons (.ret (.tup (.cons (.tup (.cons (.vr 0) (.cons (.int 0) .nil))) (.cons (.tup (.cons (.vr 1) (.cons (.int 0) .nil))) .nil)))) .nil))⟩
abbrev i_quotient : Nat := 23
def d_quotient : Df := ⟨3, 6, (.cons (.ite (.cmp .eq (.bin .mul (.ix (.vr 0) (.int 0)) (.ix (.vr 1) (.int 1))) (.bin .mul (.ix (.vr 0) (.int 1)) (.ix (.vr 1) (.int 0)))) (.cons (.set (.nm 5) (.ife (.cmp .ne (.ix (.vr 1) (.int 0)) (.int 0)) (.int 0) (.int 1))) (.cons (.ret (.ife (.cmp .gt (.ix (.vr 1) (.vr 5)) (.int 0)) (.call 22 (.cons (.ix (.vr 0) (.vr 5)) (.cons (.ix (.vr 1) (.vr 5)) .nil))) (.call 22 (.cons (.neg (.ix (.vr 0) (.vr 5))) (.cons (.neg (.ix (.vr 1) (.vr 5))) .nil))))) .nil)) .nil) (.cons (.set (.nm 3) (.ife (.cmp .gt (.call 2 (.cons (.vr 1) (.cons (.vr 2) .nil))) (.int 0)) (.int 1) (.neg (.int 1)))) (.cons (.set (.nm 4) (.bin .mul (.vr 3) (.call 0 (.cons (.call 0 (.cons (.ix (.vr 0) (.int 0)) (.cons (.ix (.vr 0) (.int 1)) .nil))) (.cons (.call 0 (.cons (.ix (.vr 1) (.int 0)) (.cons (.ix (.vr 1) (.int 1)) .nil))) .nil))))) (.cons (.ret (.tup (.cons (.tup (.cons (.bin .fdiv (.ix (.vr 0) (.int 0)) (.vr 4)) (.cons (.bin .fdiv (.ix (.vr 0) (.int 1)) (.vr 4)) .nil))) (.cons (.tup (.cons (.bin .fdiv (.ix (.vr 1) (.int 0)) (.vr 4)) (.cons (.bin .fdiv (.ix (.vr 1) (.int 1)) (.vr 4)) .nil))) .nil)))) .nil))))⟩
abbrev i_crossing : Nat := 24
def d_crossing : Df := ⟨3, 13, (.cons (.set (.tp (.cons (.tp (.cons (.nm 5) (.cons (.nm 6) (.cons (.nm 7) (.cons (.nm 8) .nil))))) (.cons (.tp (.cons (.nm 9) (.cons (.nm 10) (.cons (.nm 11) (.cons (.nm 12) .nil))))) .nil))) (.tup (.cons (.vr 0) (.cons (.vr 1) .nil)))) (.cons (.ite (.cmp .eq (.vr 8) (.int 0)) (.cons (.ret (.call 22 (.cons (.vr 7) (.cons (.int 1) .nil)))) .nil) .nil) (.cons (.ite (.cmp .eq (.vr 12) (.int 0)) (.cons (.ret (.call 22 (.cons (.vr 11) (.cons (.int 1) .nil)))) .nil) .nil) (.cons (.set (.nm 3) (.call 12 (.cons (.vr 5) (.cons (.vr 9) .nil)))) (.cons (.set (.nm 4) (.tup (.cons (.bin .sub (.bin .mul (.bin .mul (.vr 8) (.vr 12)) (.ix (.vr 3) (.int 0))) (.bin .mul (.vr 12) (.vr 7))) (.cons (.bin .add (.bin .mul (.bin .mul (.vr 8) (.vr 12)) (.ix (.vr 3) (.int 1))) (.bin .mul (.vr 8) (.vr 11))) .nil)))) (.cons (.ret (.call 23 (.cons (.vr 4) (.cons (.tup (.cons (.neg (.vr 12)) (.cons (.vr 8) .nil))) (.cons (.vr 2) .nil))))) .nil))))))⟩
abbrev i_sign_of : Nat := 25
def d_sign_of : Df := ⟨1, 1, (.cons (.ret (.bin .sub (.cmp .gt (.vr 0) (.int 0)) (.cmp .lt (.vr 0) (.int 0)))) .nil)⟩
abbrev i_gap_then : Nat := 26
def d_gap_then : Df := ⟨3, 5, (.cons (.par 3 4 false false (.call 19 (.cons (.ix (.vr 0) (.int 0)) (.cons (.ix (.vr 2) (.int 0)) (.cons (.vr 1) (.cons (.vr 2) .nil))))) (.call 19 (.cons (.ix (.vr 0) (.int 1)) (.cons (.ix (.vr 2) (.int 1)) (.cons (.vr 1) (.cons (.vr 2) .nil)))))) (.cons (.ret (.call 25 (.cons (.bin .sub (.bin .mul (.ix (.vr 3) (.int 0)) (.ix (.vr 4) (.int 1))) (.bin .mul (.ix (.vr 4) (.int 0)) (.ix (.vr 3) (.int 1)))) .nil))) .nil))⟩
abbrev i_whole_then : Nat := 27
def lt_whole_then_0 : Tg := (.nm 3)
def lb_whole_then_0 : Ss := (.cons (.set (.tp (.cons (.nm 4) (.cons (.nm 5) .nil))) (.call 19 (.cons (.ix (.vr 0) (.vr 3)) (.cons (.ix (.vr 2) (.vr 3)) (.cons (.vr 1) (.cons (.vr 2) .nil)))))) (.cons (.ite (.cmp .eq (.bin .mod (.vr 4) (.vr 5)) (.int 0)) (.cons (.ret (.call 22 (.cons (.bin .fdiv (.vr 4) (.vr 5)) (.cons (.int 1) .nil)))) .nil) .nil) .nil))
def d_whole_then : Df := ⟨3, 6, (.cons (.for_ lt_whole_then_0 (.seq (.tup (.cons (.int 0) (.cons (.int 1) .nil)))) lb_whole_then_0) (.cons (.ret .non) .nil))⟩
abbrev i_moving : Nat := 28
def lt_moving_0 : Tg := (.nm 3)
def lb_moving_0 : Ss := (.cons (.ite (.or (.isn false (.ix (.vr 3) (.int 1))) (.one (.cmp .lt (.vr 1) (.call 2 (.cons (.ix (.vr 3) (.int 1)) (.cons (.vr 2) .nil)))))) (.cons (.ret (.vr 3)) .nil) .nil) .nil)
def d_moving : Df := ⟨3, 4, (.cons (.for_ lt_moving_0 (.seq (.vr 0)) lb_moving_0) (.cons (.ret .non) .nil))⟩
abbrev i_met : Nat := 29
def ct_met_0 : Tg := (.nm 12)
def ce_met_0 : E := (.call 17 (.cons (.ix (.vr 0) (.vr 12)) (.cons (.ix (.vr 2) (.vr 12)) .nil)))
def ct_met_1 : Tg := (.nm 14)
def ce_met_1 : E := (.call 2 (.cons (.vr 14) (.cons (.vr 1) .nil)))
def lt_met_2 : Tg := (.tp (.cons (.nm 8) (.cons (.nm 9) .nil)))
def ct_met_3 : Tg := (.nm 12)
def ce_met_3 : E := (.call 28 (.cons (.ix (.vr 3) (.vr 12)) (.cons (.vr 9) (.cons (.vr 1) .nil))))
def lb_met_2 : Ss := (.cons (.set (.nm 10) (.call 26 (.cons (.vr 3) (.cons (.vr 9) (.cons (.vr 1) .nil))))) (.cons (.ite (.and (.cmp .eq (.vr 10) (.int 0)) (.one (.isn false (.vr 7)))) (.cons (.set (.nm 7) (.call 27 (.cons (.vr 3) (.cons (.vr 9) (.cons (.vr 1) .nil))))) .nil) .nil) (.cons (.set (.nm 11) (.ife (.cmp .lt (.bin .add (.vr 8) (.int 1)) (.blt .len (.cons (.vr 4) .nil))) (.call 26 (.cons (.vr 3) (.cons (.ix (.vr 4) (.bin .add (.vr 8) (.int 1))) (.cons (.vr 1) .nil)))) (.vr 10))) (.cons (.ite (.and (.cmp .eq (.vr 10) (.int 0)) (.one (.cmp .ne (.vr 11) (.int 0)))) (.cons (.set (.nm 5) (.bin .add (.vr 5) (.lst (.cons (.tup (.cons (.vr 7) (.cons (.ife (.cmp .eq (.vr 6) (.neg (.vr 11))) (.str "pass") (.str "touch")) .nil))) .nil)))) (.cons (.set (.nm 7) .non) .nil)) .nil) (.cons (.set (.nm 6) (.ife (.cmp .ne (.vr 10) (.int 0)) (.vr 10) (.vr 6))) (.cons (.ite (.cmp .lt (.bin .mul (.vr 10) (.vr 11)) (.int 0)) (.cons (.set (.nm 13) (.comp [12] ce_met_3 ct_met_3 (.seq (.tup (.cons (.int 0) (.cons (.int 1) .nil)))) .non)) (.cons (.set (.nm 5) (.bin .add (.vr 5) (.lst (.cons (.tup (.cons (.call 24 (.cons (.ix (.vr 13) (.int 0)) (.cons (.ix (.vr 13) (.int 1)) (.cons (.vr 1) .nil)))) (.cons (.str "pass") .nil))) .nil)))) .nil)) .nil) (.cons (.set (.nm 6) (.ife (.cmp .ne (.vr 11) (.int 0)) (.vr 11) (.vr 6))) .nil)))))))
def d_met : Df := ⟨2, 15, (.cons (.set (.nm 2) (.call 16 (.cons (.vr 0) (.cons (.vr 1) .nil)))) (.cons (.set (.nm 3) (.comp [12] ce_met_0 ct_met_0 (.seq (.tup (.cons (.int 0) (.cons (.int 1) .nil)))) .non)) (.cons (.set (.nm 4) (.sst (.comp [14] ce_met_1 ct_met_1 (.seq (.bin .add (.ix (.vr 2) (.int 0)) (.ix (.vr 2) (.int 1)))) .non))) (.cons (.par3 5 6 7 false (.lst .nil) (.int 0) .non) (.cons (.for_ lt_met_2 (.enm (.vr 4)) lb_met_2) (.cons (.ret (.bin .add (.vr 5) (.ife (.isn true (.vr 7)) (.lst (.cons (.tup (.cons (.vr 7) (.cons (.str "touch") .nil))) .nil)) (.lst .nil)))) .nil))))))⟩
abbrev i_value_of : Nat := 30
def d_value_of : Df := ⟨2, 2, (.cons (.ret (.call 1 (.cons (.call 2 (.cons (.ix (.vr 0) (.int 0)) (.cons (.vr 1) .nil))) (.cons (.call 2 (.cons (.ix (.vr 0) (.int 1)) (.cons (.vr 1) .nil))) .nil)))) .nil)⟩
abbrev i_seen_at : Nat := 31
def ct_seen_at_0 : Tg := (.tp (.cons (.nm 2) (.cons (.nm 3) .nil)))
def ce_seen_at_0 : E := (.tup (.cons (.call 30 (.cons (.vr 2) (.cons (.vr 1) .nil))) (.cons (.vr 3) .nil)))
def d_seen_at : Df := ⟨2, 4, (.cons (.ret (.comp [2, 3] ce_seen_at_0 ct_seen_at_0 (.seq (.call 29 (.cons (.vr 0) (.cons (.vr 1) .nil)))) .non)) .nil)⟩
abbrev i_meetings : Nat := 32
def d_meetings : Df := ⟨2, 2, (.cons (.ex (.call 10 (.cons (.vr 0) (.cons (.vr 1) .nil)))) (.cons (.ret (.call 31 (.cons (.vr 0) (.cons (.vr 1) .nil)))) .nil))⟩
abbrev i__law_cell : Nat := 33
def d__law_cell : Df := ⟨2, 2, (.cons (.ite (.cmp .lt (.vr 1) (.blt .len (.cons (.vr 0) .nil))) (.cons (.ret (.ix (.vr 0) (.vr 1))) .nil) .nil) (.cons (.ite (.cmp .eq (.blt .len (.cons (.vr 0) .nil)) (.int 0)) (.cons (.ret (.bin .add (.bin .mul (.int 7919) (.vr 1)) (.int 101))) .nil) .nil) (.cons (.ret (.bin .add (.bin .mod (.ix (.vr 0) (.bin .mod (.vr 1) (.blt .len (.cons (.vr 0) .nil)))) (.int 1000003)) (.bin .mul (.int 7919) (.vr 1)))) .nil)))⟩
abbrev i__law_draws : Nat := 34
def lt__law_draws_0 : Tg := (.nm 8)
def lb__law_draws_0 : Ss := (.cons (.set (.nm 9) (.bin .mul (.bin .mod (.vr 5) (.ix (.vr 4) (.bin .mod (.vr 8) (.int 8)))) (.bin .add (.int 48271) (.bin .mul (.bin .mul (.int 2) (.vr 8)) (.vr 8))))) (.cons (.set (.nm 9) (.bin .add (.bin .add (.vr 9) (.bin .mul (.bin .mul (.int 7919) (.bin .add (.vr 8) (.int 1))) (.bin .add (.vr 8) (.int 1)))) (.bin .mul (.int 104729) (.vr 1)))) (.cons (.set (.nm 9) (.bin .mod (.vr 9) (.ix (.vr 4) (.bin .mod (.bin .add (.bin .mul (.int 3) (.vr 8)) (.vr 1)) (.int 8))))) (.cons (.set (.nm 9) (.bin .mod (.bin .mul (.bin .mul (.vr 9) (.vr 9)) (.vr 9)) (.ix (.vr 4) (.bin .mod (.bin .add (.vr 8) (.int 5)) (.int 8))))) (.cons (.ite (.cmp .gt (.vr 6) (.int 0)) (.cons (.set (.nm 9) (.vr 6)) .nil) .nil) (.cons (.ex (.app 7 (.bin .mod (.vr 9) (.vr 3)))) (.cons (.set (.nm 6) (.bin .fdiv (.vr 6) (.vr 3))) .nil)))))))
def d__law_draws : Df := ⟨4, 10, (.cons (.set (.nm 4) (.tup (.cons (.int 2147483647) (.cons (.int 2147483629) (.cons (.int 2147483587) (.cons (.int 2147483579) (.cons (.int 2147483563) (.cons (.int 2147483549) (.cons (.int 2147483543) (.cons (.int 2147483497) .nil)))))))))) (.cons (.set (.nm 5) (.call 33 (.cons (.vr 0) (.cons (.vr 1) .nil)))) (.cons (.set (.nm 6) (.int 0)) (.cons (.ite (.cmp .ge (.vr 5) (.pow 10 18)) (.cons (.set (.nm 6) (.vr 5)) .nil) .nil) (.cons (.own 7 (.lst .nil)) (.cons (.for_ lt__law_draws_0 (.rng (.vr 2)) lb__law_draws_0) (.cons (.reto 7) .nil)))))))⟩
abbrev i__law_bag : Nat := 35
def d__law_bag : Df := ⟨2, 2, (.cons (.retf (.callo 34 (.cons (.vr 0) (.cons (.vr 1) (.cons (.int 150) (.cons (.int 27720) .nil)))))) .nil)⟩
abbrev i__law_take : Nat := 36
def d__law_take : Df := ⟨2, 3, (.cons (.set (.nm 2) (.ife (.emc true 0) (.popc 0) (.int 0))) (.cons (.ret (.bin .mod (.blt .int (.cons (.vr 2) .nil)) (.vr 1))) .nil))⟩
abbrev i__law_script : Nat := 37
def lt__law_script_0 : Tg := (.nm 4)
def lb__law_script_0 : Ss := (.cons (.ite (.and (.cmp .gt (.vr 2) (.int 0)) (.one (.cmp .eq (.call 36 (.cons (.vr 0) (.cons (.int 4) .nil))) (.int 0)))) (.cons (.ex (.app 6 (.tup (.cons (.str "wait") (.cons (.bin .add (.int 1) (.call 36 (.cons (.vr 0) (.cons (.vr 2) .nil)))) .nil))))) .nil) (.cons (.set (.nm 7) (.call 36 (.cons (.vr 0) (.cons (.int 8) .nil)))) (.cons (.set (.nm 5) (.ife (.cmp .lt (.vr 7) (.vr 5)) (.vr 7) (.bin .add (.vr 7) (.int 1)))) (.cons (.ex (.app 6 (.tup (.cons (.str "to") (.cons (.vr 5) .nil))))) .nil)))) .nil)
def d__law_script : Df := ⟨3, 8, (.cons (.par 5 6 false true (.call 36 (.cons (.vr 0) (.cons (.int 9) .nil))) (.lst .nil)) (.cons (.set (.nm 3) (.vr 5)) (.cons (.for_ lt__law_script_0 (.rng (.vr 1)) lb__law_script_0) (.cons (.ret (.tup (.cons (.vr 3) (.cons (.tupo 6) .nil)))) .nil))))⟩
abbrev i__law_pair : Nat := 38
def d__law_pair : Df := ⟨2, 4, (.cons (.par 2 3 false false (.call 36 (.cons (.vr 0) (.cons (.bin .add (.vr 1) (.int 1)) .nil))) (.call 36 (.cons (.vr 0) (.cons (.bin .add (.vr 1) (.int 1)) .nil)))) (.cons (.ret (.tup (.cons (.call 37 (.cons (.vr 0) (.cons (.vr 2) (.cons (.vr 3) .nil)))) (.cons (.call 37 (.cons (.vr 0) (.cons (.vr 3) (.cons (.vr 2) .nil)))) .nil)))) .nil))⟩
abbrev i__law_lowest : Nat := 39
def lc__law_lowest_0 : E := (.cmp .ne (.vr 4) (.int 0))
def lb__law_lowest_0 : Ss := (.cons (.par 3 4 false false (.vr 4) (.bin .mod (.vr 3) (.vr 4))) .nil)
def d__law_lowest : Df := ⟨2, 5, (.cons (.par 3 4 false false (.blt .abs (.cons (.vr 0) .nil)) (.blt .abs (.cons (.vr 1) .nil))) (.cons (.whl lc__law_lowest_0 lb__law_lowest_0) (.cons (.set (.nm 2) (.ife (.cmp .gt (.vr 1) (.int 0)) (.int 1) (.neg (.int 1)))) (.cons (.ret (.tup (.cons (.bin .fdiv (.bin .mul (.vr 2) (.vr 0)) (.vr 3)) (.cons (.bin .fdiv (.bin .mul (.vr 2) (.vr 1)) (.vr 3)) .nil)))) .nil))))⟩
abbrev i__law_spots : Nat := 40
def lt__law_spots_0 : Tg := (.tp (.cons (.nm 2) (.cons (.nm 3) .nil)))
def lb__law_spots_0 : Ss := (.cons (.ex (.app 1 (.ife (.cmp .eq (.vr 2) (.str "to")) (.vr 3) (.ixo 1 (.neg (.int 1)))))) .nil)
def d__law_spots : Df := ⟨1, 4, (.cons (.own 1 (.lst (.cons (.ix (.vr 0) (.int 0)) .nil))) (.cons (.for_ lt__law_spots_0 (.seq (.ix (.vr 0) (.int 1))) lb__law_spots_0) (.cons (.ret (.fz 1)) .nil)))⟩
abbrev i__law_clock : Nat := 41
def lc__law_clock_0 : E := (.vr 3)
def lt__law_clock_1 : Tg := (.nm 4)
def lb__law_clock_1 : Ss := (.cons (.set (.nm 5) (.bin .sub (.blt .len (.cons (.ixo 2 (.vr 4)) .nil)) (.int 1))) (.cons (.ite (.cmp .lt (.vr 5) (.blt .len (.cons (.ix (.ix (.vr 0) (.vr 4)) (.int 1)) .nil))) (.cons (.set (.tp (.cons (.nm 6) (.cons (.nm 7) .nil))) (.ix (.ix (.ix (.vr 0) (.vr 4)) (.int 1)) (.vr 5))) (.cons (.par 8 9 false false (.ix (.ixo 2 (.vr 4)) (.neg (.int 1))) (.ixo 2 (.bin .sub (.int 1) (.vr 4)))) (.cons (.ite (.cmp .eq (.vr 6) (.str "to")) (.cons (.set (.nm 10) (.blt .abs (.cons (.bin .sub (.vr 7) (.ix (.call 40 (.cons (.ix (.vr 0) (.vr 4)) .nil)) (.vr 5))) .nil))) (.cons (.sti 2 (.vr 4) (.bin .add (.ixo 2 (.vr 4)) (.lst (.cons (.bin .add (.vr 8) (.bin .mul (.vr 10) (.ix (.vr 1) (.vr 4)))) .nil)))) (.cons (.set (.nm 3) (.bl true)) .nil))) (.cons (.ite (.cmp .lt (.vr 7) (.blt .len (.cons (.vr 9) .nil))) (.cons (.sti 2 (.vr 4) (.bin .add (.ixo 2 (.vr 4)) (.lst (.cons (.blt .max (.cons (.vr 8) (.cons (.ix (.vr 9) (.vr 7)) .nil))) .nil)))) (.cons (.set (.nm 3) (.bl true)) .nil)) .nil) .nil)) .nil))) .nil) .nil))
def lb__law_clock_0 : Ss := (.cons (.set (.nm 3) (.bl false)) (.cons (.for_ lt__law_clock_1 (.seq (.lst (.cons (.int 0) (.cons (.int 1) .nil)))) lb__law_clock_1) .nil))
def d__law_clock : Df := ⟨2, 11, (.cons (.par 2 3 true false (.lst (.cons (.lst (.cons (.int 0) .nil)) (.cons (.lst (.cons (.int 0) .nil)) .nil))) (.bl true)) (.cons (.whl lc__law_clock_0 lb__law_clock_0) (.cons (.ret (.fz 2)) .nil)))⟩
abbrev i__law_top : Nat := 42
def lt__law_top_0 : Tg := (.nm 5)
def lb__law_top_0 : Ss := (.cons (.ite (.chn .le .lt (.ix (.vr 1) (.vr 5)) (.vr 3) (.ix (.vr 1) (.bin .add (.vr 5) (.int 1)))) (.cons (.par 7 8 false false (.ix (.vr 4) (.vr 5)) (.ix (.vr 4) (.bin .add (.vr 5) (.int 1)))) (.cons (.set (.nm 6) (.bin .sub (.cmp .gt (.vr 8) (.vr 7)) (.cmp .lt (.vr 8) (.vr 7)))) (.cons (.ret (.bin .add (.bin .mul (.vr 7) (.vr 2)) (.bin .mul (.vr 6) (.bin .sub (.vr 3) (.ix (.vr 1) (.vr 5)))))) .nil))) .nil) .nil)
def d__law_top : Df := ⟨4, 9, (.cons (.set (.nm 4) (.call 40 (.cons (.vr 0) .nil))) (.cons (.for_ lt__law_top_0 (.rng (.bin .sub (.blt .len (.cons (.vr 1) .nil)) (.int 1))) lb__law_top_0) (.cons (.ret (.bin .mul (.ix (.vr 4) (.bin .sub (.blt .len (.cons (.vr 1) .nil)) (.int 1))) (.vr 2))) .nil)))⟩
abbrev i__law_gaps : Nat := 43
def lt__law_gaps_0 : Tg := (.nm 4)
def lb__law_gaps_0 : Ss := (.cons (.set (.nm 8) (.bin .mul (.call 42 (.cons (.ix (.vr 0) (.int 0)) (.cons (.ix (.vr 2) (.int 0)) (.cons (.ix (.vr 1) (.int 0)) (.cons (.vr 4) .nil))))) (.ix (.vr 1) (.int 1)))) (.cons (.ex (.app 3 (.bin .sub (.vr 8) (.bin .mul (.call 42 (.cons (.ix (.vr 0) (.int 1)) (.cons (.ix (.vr 2) (.int 1)) (.cons (.ix (.vr 1) (.int 1)) (.cons (.vr 4) .nil))))) (.ix (.vr 1) (.int 0)))))) .nil))
def lt__law_gaps_1 : Tg := (.nm 5)
def lb__law_gaps_1 : Ss := (.cons (.set (.nm 9) (.cmp .eq (.bin .add (.vr 5) (.int 1)) (.blt .len (.cons (.vr 6) .nil)))) (.cons (.ex (.app 7 (.tup (.cons (.ix (.vr 6) (.vr 5)) (.cons (.ife (.vr 9) .non (.ix (.vr 6) (.bin .add (.vr 5) (.int 1)))) (.cons (.ixo 3 (.vr 5)) (.cons (.ixo 3 (.ife (.vr 9) (.vr 5) (.bin .add (.vr 5) (.int 1)))) .nil))))))) .nil))
def d__law_gaps : Df := ⟨2, 10, (.cons (.set (.nm 2) (.call 41 (.cons (.vr 0) (.cons (.vr 1) .nil)))) (.cons (.par 6 7 false true (.sst (.bin .add (.ix (.vr 2) (.int 0)) (.ix (.vr 2) (.int 1)))) (.lst .nil)) (.cons (.own 3 (.lst .nil)) (.cons (.for_ lt__law_gaps_0 (.seq (.vr 6)) lb__law_gaps_0) (.cons (.for_ lt__law_gaps_1 (.rng (.blt .len (.cons (.vr 6) .nil))) lb__law_gaps_1) (.cons (.ret (.fz 7)) .nil))))))⟩
abbrev i__law_together : Nat := 44
def lt__law_together_0 : Tg := (.tp (.cons (.nm 3) (.cons (.nm 4) (.cons (.nm 5) (.cons (.nm 6) .nil)))))
def lb__law_together_0 : Ss := (.cons (.set (.nm 7) (.bin .sub (.cmp .gt (.vr 5) (.int 0)) (.cmp .lt (.vr 5) (.int 0)))) (.cons (.set (.nm 8) (.bin .sub (.cmp .gt (.vr 6) (.int 0)) (.cmp .lt (.vr 6) (.int 0)))) (.cons (.ite (.cmp .eq (.vr 7) (.int 0)) (.cons (.ite (.or (.emo false 2) (.one (.cmp .ne (.ix (.ixo 2 (.neg (.int 1))) (.int 1)) (.tup (.cons (.vr 3) (.cons (.int 1) .nil)))))) (.cons (.ex (.app 2 (.tup (.cons (.tup (.cons (.vr 3) (.cons (.int 1) .nil))) (.cons (.tup (.cons (.vr 3) (.cons (.int 1) .nil))) (.cons (.int 0) (.cons (.int 0) .nil))))))) .nil) .nil) (.cons (.set (.nm 9) (.ife (.cmp .ne (.vr 8) (.int 0)) (.tup (.cons (.vr 3) (.cons (.int 1) .nil))) (.ife (.isn false (.vr 4)) .non (.tup (.cons (.vr 4) (.cons (.int 1) .nil)))))) (.cons (.sti 2 (.neg (.int 1)) (.tup (.cons (.ix (.ixo 2 (.neg (.int 1))) (.int 0)) (.cons (.vr 9) (.cons (.ix (.ixo 2 (.neg (.int 1))) (.int 2)) (.cons (.vr 8) .nil)))))) .nil))) (.cons (.ite (.cmp .eq (.vr 8) (.int 0)) (.cons (.ex (.app 2 (.tup (.cons (.tup (.cons (.vr 4) (.cons (.int 1) .nil))) (.cons (.tup (.cons (.vr 4) (.cons (.int 1) .nil))) (.cons (.vr 7) (.cons (.int 0) .nil))))))) .nil) (.cons (.ite (.cmp .ne (.vr 7) (.vr 8)) (.cons (.set (.nm 10) (.bin .add (.blt .abs (.cons (.vr 5) .nil)) (.blt .abs (.cons (.vr 6) .nil)))) (.cons (.set (.nm 11) (.call 39 (.cons (.bin .add (.bin .mul (.vr 3) (.vr 10)) (.bin .mul (.bin .sub (.vr 4) (.vr 3)) (.blt .abs (.cons (.vr 5) .nil)))) (.cons (.vr 10) .nil)))) (.cons (.ex (.app 2 (.tup (.cons (.vr 11) (.cons (.vr 11) (.cons (.vr 7) (.cons (.vr 8) .nil))))))) .nil))) .nil) .nil)) .nil)) .nil)))
def d__law_together : Df := ⟨2, 12, (.cons (.own 2 (.lst .nil)) (.cons (.for_ lt__law_together_0 (.seq (.call 43 (.cons (.vr 0) (.cons (.vr 1) .nil)))) lb__law_together_0) (.cons (.ret (.fz 2)) .nil)))⟩
abbrev i__law_place : Nat := 45
def ct__law_place_0 : Tg := (.nm 7)
def ce__law_place_0 : E := (.bin .mul (.vr 7) (.vr 6))
def d__law_place : Df := ⟨3, 8, (.cons (.set (.tp (.cons (.nm 5) (.cons (.nm 6) .nil))) (.tup (.cons (.call 41 (.cons (.vr 0) (.cons (.vr 1) .nil))) (.cons (.ix (.vr 2) (.int 1)) .nil)))) (.cons (.set (.nm 3) (.comp [7] ce__law_place_0 ct__law_place_0 (.seq (.ix (.vr 5) (.int 0))) .non)) (.cons (.set (.nm 4) (.call 42 (.cons (.ix (.vr 0) (.int 0)) (.cons (.vr 3) (.cons (.bin .mul (.ix (.vr 1) (.int 0)) (.vr 6)) (.cons (.ix (.vr 2) (.int 0)) .nil)))))) (.cons (.ret (.call 39 (.cons (.vr 4) (.cons (.bin .mul (.ix (.vr 1) (.int 0)) (.vr 6)) .nil)))) .nil))))⟩
abbrev i__law_met : Nat := 46
def lt__law_met_0 : Tg := (.tp (.cons (.nm 3) (.cons (.nm 4) (.cons (.nm 5) (.cons (.nm 6) .nil)))))
def lb__law_met_0 : Ss := (.cons (.set (.nm 7) (.ife (.and (.cmp .ne (.vr 5) (.int 0)) (.one (.cmp .eq (.vr 5) (.neg (.vr 6))))) (.str "pass") (.str "touch"))) (.cons (.ex (.app 2 (.tup (.cons (.call 45 (.cons (.vr 0) (.cons (.vr 1) (.cons (.vr 3) .nil)))) (.cons (.vr 7) .nil))))) .nil))
def d__law_met : Df := ⟨2, 8, (.cons (.own 2 (.lst .nil)) (.cons (.for_ lt__law_met_0 (.seq (.call 44 (.cons (.vr 0) (.cons (.vr 1) .nil)))) lb__law_met_0) (.cons (.ret (.fz 2)) .nil)))⟩
abbrev i__law_refused : Nat := 47
def lt__law_refused_0 : Tg := (.nm 1)
def lb__law_refused_0 : Ss := (.cons (.own 2 (.lst (.cons (.err 18 (.cons (.vr 0) (.cons (.vr 1) .nil))) .nil))) (.cons (.ex (.app 2 (.err 21 (.cons (.vr 0) (.cons (.vr 1) (.cons .non (.cons .non .nil))))))) (.cons (.ex (.app 2 (.err 32 (.cons (.vr 0) (.cons (.vr 1) .nil))))) (.cons (.ite (.cmp .ne (.fz 2) (.bin .mul (.lst (.cons (.str "paces value") .nil)) (.int 3))) (.cons (.ret (.bl false)) .nil) .nil) .nil))))
def lt__law_refused_1 : Tg := (.nm 1)
def lb__law_refused_1 : Ss := (.cons (.ite (.cmp .ne (.err 21 (.cons (.vr 0) (.cons (.tup (.cons (.int 1) (.cons (.int 1) .nil))) (.cons (.vr 1) (.cons .non .nil))))) (.str "walker value")) (.cons (.ret (.bl false)) .nil) .nil) .nil)
def lt__law_refused_2 : Tg := (.nm 1)
def lb__law_refused_2 : Ss := (.cons (.ite (.cmp .ne (.err 21 (.cons (.vr 0) (.cons (.tup (.cons (.int 1) (.cons (.int 1) .nil))) (.cons (.int 1) (.cons (.vr 1) .nil))))) (.str "number value")) (.cons (.ret (.bl false)) .nil) .nil) .nil)
def d__law_refused : Df := ⟨1, 3, (.cons (.for_ lt__law_refused_0 (.seq (.lst (.cons .non (.cons (.tup (.cons (.int 0) (.cons (.int 1) .nil))) (.cons (.tup (.cons (.int 1) (.cons (.bl true) .nil))) (.cons (.tup (.cons (.int 1) .nil)) (.cons (.lst (.cons (.int 1) (.cons (.int 1) .nil))) (.cons (.tup (.cons (.int 1) (.cons (.bin .add (.pow 10 12) (.int 1)) .nil))) .nil)))))))) lb__law_refused_0) (.cons (.for_ lt__law_refused_1 (.seq (.lst (.cons (.int 2) (.cons (.neg (.int 1)) (.cons (.bl true) (.cons .non (.cons (.str "0") .nil))))))) lb__law_refused_1) (.cons (.for_ lt__law_refused_2 (.seq (.lst (.cons (.neg (.int 1)) (.cons (.bl true) (.cons .non (.cons (.tup (.cons (.int 1) (.cons (.int 2) .nil))) .nil)))))) lb__law_refused_2) (.cons (.ret (.cmp .eq (.err 32 (.cons (.ix (.vr 0) (.int 0)) (.cons .non .nil))) (.str "pair value"))) .nil))))⟩
abbrev i_law : Nat := 48
def lt_law_0 : Tg := (.nm 1)
def lt_law_1 : Tg := (.nm 5)
def lt_law_2 : Tg := (.nm 9)
def lt_law_3 : Tg := (.nm 10)
def lb_law_3 : Ss := (.cons (.set (.nm 11) (.call 42 (.cons (.ix (.vr 4) (.vr 9)) (.cons (.ix (.vr 7) (.vr 9)) (.cons (.ix (.vr 6) (.vr 9)) (.cons (.vr 10) .nil)))))) (.cons (.ite (.cmp .ne (.call 21 (.cons (.vr 4) (.cons (.vr 6) (.cons (.vr 9) (.cons (.vr 10) .nil))))) (.call 39 (.cons (.vr 11) (.cons (.ix (.vr 6) (.vr 9)) .nil)))) (.cons (.ret (.bl false)) .nil) .nil) .nil))
def lb_law_2 : Ss := (.cons (.for_ lt_law_3 (.seq (.lst (.cons (.int 0) (.cons (.int 1) (.cons (.call 36 (.cons (.vr 3) (.cons (.int 60) .nil))) (.cons (.call 36 (.cons (.vr 3) (.cons (.int 600) .nil))) (.cons (.pow 10 20) .nil))))))) lb_law_3) .nil)
def lb_law_1 : Ss := (.cons (.set (.nm 6) (.tup (.cons (.bin .add (.int 1) (.call 36 (.cons (.vr 3) (.cons (.int 12) .nil)))) (.cons (.bin .add (.int 1) (.call 36 (.cons (.vr 3) (.cons (.int 12) .nil)))) .nil)))) (.cons (.set (.nm 7) (.call 41 (.cons (.vr 4) (.cons (.vr 6) .nil)))) (.cons (.ite (.cmp .ne (.call 18 (.cons (.vr 4) (.cons (.vr 6) .nil))) (.tup (.cons (.sl (.ix (.vr 7) (.int 0)) (.som (.int 1)) .non) (.cons (.sl (.ix (.vr 7) (.int 1)) (.som (.int 1)) .non) .nil)))) (.cons (.ret (.bl false)) .nil) .nil) (.cons (.ite (.cmp .ne (.call 32 (.cons (.vr 4) (.cons (.vr 6) .nil))) (.call 46 (.cons (.vr 4) (.cons (.vr 6) .nil)))) (.cons (.ret (.bl false)) .nil) .nil) (.cons (.set (.nm 8) (.bin .add (.pow 10 9) (.call 36 (.cons (.vr 3) (.cons (.int 1000) .nil))))) (.cons (.ite (.cmp .ne (.call 32 (.cons (.vr 4) (.cons (.tup (.cons (.bin .mul (.ix (.vr 6) (.int 0)) (.vr 8)) (.cons (.bin .mul (.ix (.vr 6) (.int 1)) (.vr 8)) .nil))) .nil))) (.call 46 (.cons (.vr 4) (.cons (.vr 6) .nil)))) (.cons (.ret (.bl false)) .nil) .nil) (.cons (.for_ lt_law_2 (.seq (.lst (.cons (.int 0) (.cons (.int 1) .nil)))) lb_law_2) .nil)))))))
def lb_law_0 : Ss := (.cons (.set (.nm 3) (.newc (.callo 35 (.cons (.vr 0) (.cons (.vr 1) .nil))))) (.cons (.set (.nm 4) (.call 38 (.cons (.vr 3) (.cons (.int 5) .nil)))) (.cons (.for_ lt_law_1 (.rng (.int 5)) lb_law_1) (.cons (.ite (.not (.call 47 (.cons (.vr 4) .nil))) (.cons (.ret (.bl false)) .nil) .nil) .nil))))
def d_law : Df := ⟨1, 12, (.cons (.for_ lt_law_0 (.rng (.int 8)) lb_law_0) (.cons (.set (.nm 2) (.tup (.cons (.tup (.cons (.int 0) (.cons (.tup (.cons (.tup (.cons (.str "to") (.cons (.int 10) .nil))) (.cons (.tup (.cons (.str "to") (.cons (.int 0) .nil))) .nil))) .nil))) (.cons (.tup (.cons (.int 0) (.cons (.tup (.cons (.tup (.cons (.str "to") (.cons (.int 10) .nil))) .nil)) .nil))) .nil)))) (.cons (.ite (.cmp .ne (.call 32 (.cons (.vr 2) (.cons (.tup (.cons (.int 1) (.cons (.int 2) .nil))) .nil))) (.lst (.cons (.tup (.cons (.tup (.cons (.int 0) (.cons (.int 1) .nil))) (.cons (.str "touch") .nil))) (.cons (.tup (.cons (.tup (.cons (.int 20) (.cons (.int 3) .nil))) (.cons (.str "pass") .nil))) .nil)))) (.cons (.ret (.bl false)) .nil) .nil) (.cons (.ite (.cmp .ne (.call 32 (.cons (.vr 2) (.cons (.tup (.cons (.int 3) (.cons (.int 3) .nil))) .nil))) (.lst (.cons (.tup (.cons (.tup (.cons (.int 0) (.cons (.int 1) .nil))) (.cons (.str "touch") .nil))) .nil))) (.cons (.ret (.bl false)) .nil) .nil) (.cons (.ite (.cmp .ne (.call 32 (.cons (.vr 2) (.cons (.tup (.cons (.int 2) (.cons (.int 1) .nil))) .nil))) (.lst (.cons (.tup (.cons (.tup (.cons (.int 0) (.cons (.int 1) .nil))) (.cons (.str "touch") .nil))) (.cons (.tup (.cons (.tup (.cons (.int 10) (.cons (.int 1) .nil))) (.cons (.str "touch") .nil))) .nil)))) (.cons (.ret (.bl false)) .nil) .nil) (.cons (.set (.nm 2) (.tup (.cons (.tup (.cons (.int 0) (.cons (.tup (.cons (.tup (.cons (.str "wait") (.cons (.int 1) .nil))) (.cons (.tup (.cons (.str "to") (.cons (.int 6) .nil))) .nil))) .nil))) (.cons (.tup (.cons (.int 4) (.cons (.tup (.cons (.tup (.cons (.str "to") (.cons (.int 8) .nil))) (.cons (.tup (.cons (.str "wait") (.cons (.int 2) .nil))) (.cons (.tup (.cons (.str "to") (.cons (.int 5) .nil))) .nil)))) .nil))) .nil)))) (.cons (.ret (.and (.cmp .eq (.call 18 (.cons (.vr 2) (.cons (.tup (.cons (.int 2) (.cons (.int 3) .nil))) .nil))) (.tup (.cons (.lst (.cons (.int 12) (.cons (.int 24) .nil))) (.cons (.lst (.cons (.int 12) (.cons (.int 24) (.cons (.int 33) .nil)))) .nil)))) (.one (.cmp .eq (.call 32 (.cons (.vr 2) (.cons (.tup (.cons (.int 2) (.cons (.int 3) .nil))) .nil))) (.lst (.cons (.tup (.cons (.tup (.cons (.int 6) (.cons (.int 1) .nil))) (.cons (.str "pass") .nil))) .nil)))))) .nil)))))))⟩
def Ps_0 : List Df := [d_divisor_of, d_lowest, d_worth, d_is_plain, d_is_whole, d_is_leg, d_is_script, d_is_pair, d_need_pair, d_need_paces, d_need_walk, d_need_walker, d_minus, d_walked, d_place_ahead, d_more_times, d_times_at, d_moves_of, d_done_at, d_place_then, d_need_time, d_place_at, d_constant, d_quotient, d_crossing, d_sign_of, d_gap_then, d_whole_then, d_moving, d_met]
def Ps_1 : List Df := [d_value_of, d_seen_at, d_meetings, d__law_cell, d__law_draws, d__law_bag, d__law_take, d__law_script, d__law_pair, d__law_lowest, d__law_spots, d__law_clock, d__law_top, d__law_gaps, d__law_together, d__law_place, d__law_met, d__law_refused, d_law]
def Ps : List Df := Ps_0 ++ Ps_1
def intL : List (PySem.Str × Int) := [(PySem.Str.ofString "FAR_END", 20), (PySem.Str.ofString "MOST_PACE", 1000000000000)]
def gl (k : Nat) : Option D := (intL[k]?).map fun q => .int q.2
theorem p_divisor_of (n : Nat) : prg Ps gl (n + 1) i_divisor_of = runD (prg Ps gl n) gl d_divisor_of := rfl
theorem p_lowest (n : Nat) : prg Ps gl (n + 1) i_lowest = runD (prg Ps gl n) gl d_lowest := rfl
theorem p_worth (n : Nat) : prg Ps gl (n + 1) i_worth = runD (prg Ps gl n) gl d_worth := rfl
theorem p_is_plain (n : Nat) : prg Ps gl (n + 1) i_is_plain = runD (prg Ps gl n) gl d_is_plain := rfl
theorem p_is_whole (n : Nat) : prg Ps gl (n + 1) i_is_whole = runD (prg Ps gl n) gl d_is_whole := rfl
theorem p_is_leg (n : Nat) : prg Ps gl (n + 1) i_is_leg = runD (prg Ps gl n) gl d_is_leg := rfl
theorem p_is_script (n : Nat) : prg Ps gl (n + 1) i_is_script = runD (prg Ps gl n) gl d_is_script := rfl
theorem p_is_pair (n : Nat) : prg Ps gl (n + 1) i_is_pair = runD (prg Ps gl n) gl d_is_pair := rfl
theorem p_need_pair (n : Nat) : prg Ps gl (n + 1) i_need_pair = runD (prg Ps gl n) gl d_need_pair := rfl
theorem p_need_paces (n : Nat) : prg Ps gl (n + 1) i_need_paces = runD (prg Ps gl n) gl d_need_paces := rfl
theorem p_need_walk (n : Nat) : prg Ps gl (n + 1) i_need_walk = runD (prg Ps gl n) gl d_need_walk := rfl
theorem p_need_walker (n : Nat) : prg Ps gl (n + 1) i_need_walker = runD (prg Ps gl n) gl d_need_walker := rfl
theorem p_minus (n : Nat) : prg Ps gl (n + 1) i_minus = runD (prg Ps gl n) gl d_minus := rfl
theorem p_walked (n : Nat) : prg Ps gl (n + 1) i_walked = runD (prg Ps gl n) gl d_walked := rfl
theorem p_place_ahead (n : Nat) : prg Ps gl (n + 1) i_place_ahead = runD (prg Ps gl n) gl d_place_ahead := rfl
theorem p_more_times (n : Nat) : prg Ps gl (n + 1) i_more_times = runD (prg Ps gl n) gl d_more_times := rfl
theorem p_times_at (n : Nat) : prg Ps gl (n + 1) i_times_at = runD (prg Ps gl n) gl d_times_at := rfl
theorem p_moves_of (n : Nat) : prg Ps gl (n + 1) i_moves_of = runD (prg Ps gl n) gl d_moves_of := rfl
theorem p_done_at (n : Nat) : prg Ps gl (n + 1) i_done_at = runD (prg Ps gl n) gl d_done_at := rfl
theorem p_place_then (n : Nat) : prg Ps gl (n + 1) i_place_then = runD (prg Ps gl n) gl d_place_then := rfl
theorem p_need_time (n : Nat) : prg Ps gl (n + 1) i_need_time = runD (prg Ps gl n) gl d_need_time := rfl
theorem p_place_at (n : Nat) : prg Ps gl (n + 1) i_place_at = runD (prg Ps gl n) gl d_place_at := rfl
theorem p_constant (n : Nat) : prg Ps gl (n + 1) i_constant = runD (prg Ps gl n) gl d_constant := rfl
theorem p_quotient (n : Nat) : prg Ps gl (n + 1) i_quotient = runD (prg Ps gl n) gl d_quotient := rfl
theorem p_crossing (n : Nat) : prg Ps gl (n + 1) i_crossing = runD (prg Ps gl n) gl d_crossing := rfl
theorem p_sign_of (n : Nat) : prg Ps gl (n + 1) i_sign_of = runD (prg Ps gl n) gl d_sign_of := rfl
theorem p_gap_then (n : Nat) : prg Ps gl (n + 1) i_gap_then = runD (prg Ps gl n) gl d_gap_then := rfl
theorem p_whole_then (n : Nat) : prg Ps gl (n + 1) i_whole_then = runD (prg Ps gl n) gl d_whole_then := rfl
theorem p_moving (n : Nat) : prg Ps gl (n + 1) i_moving = runD (prg Ps gl n) gl d_moving := rfl
theorem p_met (n : Nat) : prg Ps gl (n + 1) i_met = runD (prg Ps gl n) gl d_met := rfl
theorem p_value_of (n : Nat) : prg Ps gl (n + 1) i_value_of = runD (prg Ps gl n) gl d_value_of := rfl
theorem p_seen_at (n : Nat) : prg Ps gl (n + 1) i_seen_at = runD (prg Ps gl n) gl d_seen_at := rfl
theorem p_meetings (n : Nat) : prg Ps gl (n + 1) i_meetings = runD (prg Ps gl n) gl d_meetings := rfl
theorem p__law_cell (n : Nat) : prg Ps gl (n + 1) i__law_cell = runD (prg Ps gl n) gl d__law_cell := rfl
theorem p__law_draws (n : Nat) : prg Ps gl (n + 1) i__law_draws = runD (prg Ps gl n) gl d__law_draws := rfl
theorem p__law_bag (n : Nat) : prg Ps gl (n + 1) i__law_bag = runD (prg Ps gl n) gl d__law_bag := rfl
theorem p__law_take (n : Nat) : prg Ps gl (n + 1) i__law_take = runD (prg Ps gl n) gl d__law_take := rfl
theorem p__law_script (n : Nat) : prg Ps gl (n + 1) i__law_script = runD (prg Ps gl n) gl d__law_script := rfl
theorem p__law_pair (n : Nat) : prg Ps gl (n + 1) i__law_pair = runD (prg Ps gl n) gl d__law_pair := rfl
theorem p__law_lowest (n : Nat) : prg Ps gl (n + 1) i__law_lowest = runD (prg Ps gl n) gl d__law_lowest := rfl
theorem p__law_spots (n : Nat) : prg Ps gl (n + 1) i__law_spots = runD (prg Ps gl n) gl d__law_spots := rfl
theorem p__law_clock (n : Nat) : prg Ps gl (n + 1) i__law_clock = runD (prg Ps gl n) gl d__law_clock := rfl
theorem p__law_top (n : Nat) : prg Ps gl (n + 1) i__law_top = runD (prg Ps gl n) gl d__law_top := rfl
theorem p__law_gaps (n : Nat) : prg Ps gl (n + 1) i__law_gaps = runD (prg Ps gl n) gl d__law_gaps := rfl
theorem p__law_together (n : Nat) : prg Ps gl (n + 1) i__law_together = runD (prg Ps gl n) gl d__law_together := rfl
theorem p__law_place (n : Nat) : prg Ps gl (n + 1) i__law_place = runD (prg Ps gl n) gl d__law_place := rfl
theorem p__law_met (n : Nat) : prg Ps gl (n + 1) i__law_met = runD (prg Ps gl n) gl d__law_met := rfl
theorem p__law_refused (n : Nat) : prg Ps gl (n + 1) i__law_refused = runD (prg Ps gl n) gl d__law_refused := rfl
theorem p_law (n : Nat) : prg Ps gl (n + 1) i_law = runD (prg Ps gl n) gl d_law := rfl
end Lw
end
section
set_option Elab.async false
set_option linter.all false
set_option maxRecDepth 100000
set_option maxHeartbeats 4000000
namespace Lw
open PySem PySem.Spec PyProof.Rows L2 Pv
def top (i : Nat) : Stmt := PySem.Challenge.pw_speedsopen_k02_whole_walks_with_known_pa.main.body.getD i (.Pass ⟨0, 0, 0, 0⟩)
def fnN_0 : List PySem.Str := [PySem.Str.ofString "divisor_of", PySem.Str.ofString "lowest", PySem.Str.ofString "worth", PySem.Str.ofString "is_plain", PySem.Str.ofString "is_whole", PySem.Str.ofString "is_leg", PySem.Str.ofString "is_script", PySem.Str.ofString "is_pair", PySem.Str.ofString "need_pair", PySem.Str.ofString "need_paces", PySem.Str.ofString "need_walk", PySem.Str.ofString "need_walker", PySem.Str.ofString "minus", PySem.Str.ofString "walked", PySem.Str.ofString "place_ahead", PySem.Str.ofString "more_times", PySem.Str.ofString "times_at", PySem.Str.ofString "moves_of", PySem.Str.ofString "done_at", PySem.Str.ofString "place_then", PySem.Str.ofString "need_time", PySem.Str.ofString "place_at", PySem.Str.ofString "constant", PySem.Str.ofString "quotient", PySem.Str.ofString "crossing", PySem.Str.ofString "sign_of", PySem.Str.ofString "gap_then", PySem.Str.ofString "whole_then", PySem.Str.ofString "moving", PySem.Str.ofString "met"]
def fnN_1 : List PySem.Str := [PySem.Str.ofString "value_of", PySem.Str.ofString "seen_at", PySem.Str.ofString "meetings", PySem.Str.ofString "_law_cell", PySem.Str.ofString "_law_draws", PySem.Str.ofString "_law_bag", PySem.Str.ofString "_law_take", PySem.Str.ofString "_law_script", PySem.Str.ofString "_law_pair", PySem.Str.ofString "_law_lowest", PySem.Str.ofString "_law_spots", PySem.Str.ofString "_law_clock", PySem.Str.ofString "_law_top", PySem.Str.ofString "_law_gaps", PySem.Str.ofString "_law_together", PySem.Str.ofString "_law_place", PySem.Str.ofString "_law_met", PySem.Str.ofString "_law_refused", PySem.Str.ofString "law"]
def fnN : List PySem.Str := fnN_0 ++ fnN_1
def glN_0 : List PySem.Str := [PySem.Str.ofString "FAR_END", PySem.Str.ofString "MOST_PACE"]
def glN : List PySem.Str := glN_0
def xcN_0 : List PySem.Str := [PySem.Str.ofString "SpeedError", PySem.Str.ofString "InvalidScript", PySem.Str.ofString "InvalidPair", PySem.Str.ofString "InvalidPaces", PySem.Str.ofString "InvalidWalker", PySem.Str.ofString "InvalidNumber", PySem.Str.ofString "InvalidFacts", PySem.Str.ofString "InvalidText", PySem.Str.ofString "NoRatio", PySem.Str.ofString "NothingToUndo"]
def xcN : List PySem.Str := xcN_0
def GNm : Nm := ⟨fnN, glN, xcN, false⟩
def s_divisor_of : Sd0 := ⟨PySem.Str.ofString "divisor_of", [PySem.Str.ofString "one", PySem.Str.ofString "other"], [PySem.Str.ofString "one", PySem.Str.ofString "other"], defArgs (top 12), defBody (top 12), defScope (top 12), false⟩
def s_lowest : Sd0 := ⟨PySem.Str.ofString "lowest", [PySem.Str.ofString "top", PySem.Str.ofString "below", PySem.Str.ofString "divisor"], [PySem.Str.ofString "top", PySem.Str.ofString "below"], defArgs (top 13), defBody (top 13), defScope (top 13), false⟩
def s_worth : Sd0 := ⟨PySem.Str.ofString "worth", [PySem.Str.ofString "form", PySem.Str.ofString "ratio"], [PySem.Str.ofString "form", PySem.Str.ofString "ratio"], defArgs (top 14), defBody (top 14), defScope (top 14), false⟩
def s_is_plain : Sd0 := ⟨PySem.Str.ofString "is_plain", [PySem.Str.ofString "value"], [PySem.Str.ofString "value"], defArgs (top 18), defBody (top 18), defScope (top 18), false⟩
def s_is_whole : Sd0 := ⟨PySem.Str.ofString "is_whole", [PySem.Str.ofString "value", PySem.Str.ofString "low", PySem.Str.ofString "high"], [PySem.Str.ofString "value", PySem.Str.ofString "low", PySem.Str.ofString "high"], defArgs (top 19), defBody (top 19), defScope (top 19), false⟩
def s_is_leg : Sd0 := ⟨PySem.Str.ofString "is_leg", [PySem.Str.ofString "value"], [PySem.Str.ofString "value"], defArgs (top 20), defBody (top 20), defScope (top 20), false⟩
def s_is_script : Sd0 := ⟨PySem.Str.ofString "is_script", [PySem.Str.ofString "value", PySem.Str.ofString "place", PySem.Str.ofString "legs", PySem.Str.ofString "word", PySem.Str.ofString "number", PySem.Str.ofString "leg"], [PySem.Str.ofString "value"], defArgs (top 21), defBody (top 21), defScope (top 21), false⟩
def s_is_pair : Sd0 := ⟨PySem.Str.ofString "is_pair", [PySem.Str.ofString "value", PySem.Str.ofString "script", PySem.Str.ofString "other", PySem.Str.ofString "word", PySem.Str.ofString "number"], [PySem.Str.ofString "value"], defArgs (top 22), defBody (top 22), defScope (top 22), false⟩
def s_need_pair : Sd0 := ⟨PySem.Str.ofString "need_pair", [PySem.Str.ofString "pair"], [PySem.Str.ofString "pair"], defArgs (top 23), defBody (top 23), defScope (top 23), false⟩
def s_need_paces : Sd0 := ⟨PySem.Str.ofString "need_paces", [PySem.Str.ofString "paces", PySem.Str.ofString "pace"], [PySem.Str.ofString "paces"], defArgs (top 24), defBody (top 24), defScope (top 24), false⟩
def s_need_walk : Sd0 := ⟨PySem.Str.ofString "need_walk", [PySem.Str.ofString "pair", PySem.Str.ofString "paces"], [PySem.Str.ofString "pair", PySem.Str.ofString "paces"], defArgs (top 25), defBody (top 25), defScope (top 25), false⟩
def s_need_walker : Sd0 := ⟨PySem.Str.ofString "need_walker", [PySem.Str.ofString "walker"], [PySem.Str.ofString "walker"], defArgs (top 26), defBody (top 26), defScope (top 26), false⟩
def s_minus : Sd0 := ⟨PySem.Str.ofString "minus", [PySem.Str.ofString "one", PySem.Str.ofString "other"], [PySem.Str.ofString "one", PySem.Str.ofString "other"], defArgs (top 28), defBody (top 28), defScope (top 28), false⟩
def s_walked : Sd0 := ⟨PySem.Str.ofString "walked", [PySem.Str.ofString "form", PySem.Str.ofString "walker", PySem.Str.ofString "places"], [PySem.Str.ofString "form", PySem.Str.ofString "walker", PySem.Str.ofString "places"], defArgs (top 29), defBody (top 29), defScope (top 29), false⟩
def s_place_ahead : Sd0 := ⟨PySem.Str.ofString "place_ahead", [PySem.Str.ofString "script", PySem.Str.ofString "at", PySem.Str.ofString "places", PySem.Str.ofString "word", PySem.Str.ofString "number"], [PySem.Str.ofString "script", PySem.Str.ofString "at"], defArgs (top 30), defBody (top 30), defScope (top 30), false⟩
def s_more_times : Sd0 := ⟨PySem.Str.ofString "more_times", [PySem.Str.ofString "script", PySem.Str.ofString "walker", PySem.Str.ofString "row", PySem.Str.ofString "others", PySem.Str.ofString "ratio", PySem.Str.ofString "at", PySem.Str.ofString "word", PySem.Str.ofString "number"], [PySem.Str.ofString "script", PySem.Str.ofString "walker", PySem.Str.ofString "row", PySem.Str.ofString "others", PySem.Str.ofString "ratio"], defArgs (top 31), defBody (top 31), defScope (top 31), false⟩
def s_times_at : Sd0 := ⟨PySem.Str.ofString "times_at", [PySem.Str.ofString "pair", PySem.Str.ofString "ratio", PySem.Str.ofString "one", PySem.Str.ofString "other", PySem.Str.ofString "ahead"], [PySem.Str.ofString "pair", PySem.Str.ofString "ratio"], defArgs (top 32), defBody (top 32), defScope (top 32), false⟩
def s_moves_of : Sd0 := ⟨PySem.Str.ofString "moves_of", [PySem.Str.ofString "script", PySem.Str.ofString "times", PySem.Str.ofString "found", PySem.Str.ofString "at", PySem.Str.ofString "place", PySem.Str.ofString "way", PySem.Str.ofString "word", PySem.Str.ofString "number"], [PySem.Str.ofString "script", PySem.Str.ofString "times"], defArgs (top 33), defBody (top 33), defScope (top 33), false⟩
def s_done_at : Sd0 := ⟨PySem.Str.ofString "done_at", [PySem.Str.ofString "pair", PySem.Str.ofString "paces", PySem.Str.ofString "row", PySem.Str.ofString "form"], [PySem.Str.ofString "pair", PySem.Str.ofString "paces"], defArgs (top 35), defBody (top 35), defScope (top 35), false⟩
def s_place_then : Sd0 := ⟨PySem.Str.ofString "place_then", [PySem.Str.ofString "moves", PySem.Str.ofString "pace", PySem.Str.ofString "time", PySem.Str.ofString "paces", PySem.Str.ofString "begin", PySem.Str.ofString "end", PySem.Str.ofString "place", PySem.Str.ofString "way"], [PySem.Str.ofString "moves", PySem.Str.ofString "pace", PySem.Str.ofString "time", PySem.Str.ofString "paces"], defArgs (top 36), defBody (top 36), defScope (top 36), false⟩
def s_need_time : Sd0 := ⟨PySem.Str.ofString "need_time", [PySem.Str.ofString "time"], [PySem.Str.ofString "time"], defArgs (top 37), defBody (top 37), defScope (top 37), false⟩
def s_place_at : Sd0 := ⟨PySem.Str.ofString "place_at", [PySem.Str.ofString "pair", PySem.Str.ofString "paces", PySem.Str.ofString "walker", PySem.Str.ofString "time", PySem.Str.ofString "top", PySem.Str.ofString "below"], [PySem.Str.ofString "pair", PySem.Str.ofString "paces", PySem.Str.ofString "walker", PySem.Str.ofString "time"], defArgs (top 38), defBody (top 38), defScope (top 38), false⟩
def s_constant : Sd0 := ⟨PySem.Str.ofString "constant", [PySem.Str.ofString "top", PySem.Str.ofString "below"], [PySem.Str.ofString "top", PySem.Str.ofString "below"], defArgs (top 39), defBody (top 39), defScope (top 39), false⟩
def s_quotient : Sd0 := ⟨PySem.Str.ofString "quotient", [PySem.Str.ofString "top", PySem.Str.ofString "below", PySem.Str.ofString "ratio", PySem.Str.ofString "sign", PySem.Str.ofString "divisor", PySem.Str.ofString "at"], [PySem.Str.ofString "top", PySem.Str.ofString "below", PySem.Str.ofString "ratio"], defArgs (top 40), defBody (top 40), defScope (top 40), false⟩
def s_crossing : Sd0 := ⟨PySem.Str.ofString "crossing", [PySem.Str.ofString "one", PySem.Str.ofString "other", PySem.Str.ofString "ratio", PySem.Str.ofString "ahead", PySem.Str.ofString "top", PySem.Str.ofString "begin", PySem.Str.ofString "end", PySem.Str.ofString "place", PySem.Str.ofString "way", PySem.Str.ofString "late", PySem.Str.ofString "last", PySem.Str.ofString "spot", PySem.Str.ofString "turn"], [PySem.Str.ofString "one", PySem.Str.ofString "other", PySem.Str.ofString "ratio"], defArgs (top 41), defBody (top 41), defScope (top 41), false⟩
def s_sign_of : Sd0 := ⟨PySem.Str.ofString "sign_of", [PySem.Str.ofString "number"], [PySem.Str.ofString "number"], defArgs (top 42), defBody (top 42), defScope (top 42), false⟩
def s_gap_then : Sd0 := ⟨PySem.Str.ofString "gap_then", [PySem.Str.ofString "moves", PySem.Str.ofString "time", PySem.Str.ofString "paces", PySem.Str.ofString "one", PySem.Str.ofString "other"], [PySem.Str.ofString "moves", PySem.Str.ofString "time", PySem.Str.ofString "paces"], defArgs (top 43), defBody (top 43), defScope (top 43), false⟩
def s_whole_then : Sd0 := ⟨PySem.Str.ofString "whole_then", [PySem.Str.ofString "moves", PySem.Str.ofString "time", PySem.Str.ofString "paces", PySem.Str.ofString "walker", PySem.Str.ofString "top", PySem.Str.ofString "below"], [PySem.Str.ofString "moves", PySem.Str.ofString "time", PySem.Str.ofString "paces"], defArgs (top 44), defBody (top 44), defScope (top 44), false⟩
def s_moving : Sd0 := ⟨PySem.Str.ofString "moving", [PySem.Str.ofString "moves", PySem.Str.ofString "time", PySem.Str.ofString "paces", PySem.Str.ofString "move"], [PySem.Str.ofString "moves", PySem.Str.ofString "time", PySem.Str.ofString "paces"], defArgs (top 45), defBody (top 45), defScope (top 45), false⟩
def s_met : Sd0 := ⟨PySem.Str.ofString "met", [PySem.Str.ofString "pair", PySem.Str.ofString "ratio", PySem.Str.ofString "times", PySem.Str.ofString "moves", PySem.Str.ofString "marks", PySem.Str.ofString "found", PySem.Str.ofString "side", PySem.Str.ofString "begun", PySem.Str.ofString "at", PySem.Str.ofString "mark", PySem.Str.ofString "here", PySem.Str.ofString "later", PySem.Str.ofString "walker", PySem.Str.ofString "scene", PySem.Str.ofString "form"], [PySem.Str.ofString "pair", PySem.Str.ofString "ratio"], defArgs (top 46), defBody (top 46), defScope (top 46), false⟩
def s_value_of : Sd0 := ⟨PySem.Str.ofString "value_of", [PySem.Str.ofString "form", PySem.Str.ofString "ratio"], [PySem.Str.ofString "form", PySem.Str.ofString "ratio"], defArgs (top 47), defBody (top 47), defScope (top 47), false⟩
def s_seen_at : Sd0 := ⟨PySem.Str.ofString "seen_at", [PySem.Str.ofString "pair", PySem.Str.ofString "paces", PySem.Str.ofString "form", PySem.Str.ofString "kind"], [PySem.Str.ofString "pair", PySem.Str.ofString "paces"], defArgs (top 48), defBody (top 48), defScope (top 48), false⟩
def s_meetings : Sd0 := ⟨PySem.Str.ofString "meetings", [PySem.Str.ofString "pair", PySem.Str.ofString "paces"], [PySem.Str.ofString "pair", PySem.Str.ofString "paces"], defArgs (top 49), defBody (top 49), defScope (top 49), false⟩
def s__law_cell : Sd0 := ⟨PySem.Str.ofString "_law_cell", [PySem.Str.ofString "_law_script_here", PySem.Str.ofString "_law_k"], [PySem.Str.ofString "_law_script_here", PySem.Str.ofString "_law_k"], defArgs (top 51), defBody (top 51), defScope (top 51), false⟩
def s__law_draws : Sd0 := ⟨PySem.Str.ofString "_law_draws", [PySem.Str.ofString "_law_script_here", PySem.Str.ofString "_law_k", PySem.Str.ofString "_law_many", PySem.Str.ofString "_law_base", PySem.Str.ofString "_law_primes", PySem.Str.ofString "_law_cell_here", PySem.Str.ofString "_law_rest", PySem.Str.ofString "_law_row", PySem.Str.ofString "_law_j", PySem.Str.ofString "_law_mash"], [PySem.Str.ofString "_law_script_here", PySem.Str.ofString "_law_k", PySem.Str.ofString "_law_many", PySem.Str.ofString "_law_base"], defArgs (top 52), defBody (top 52), defScope (top 52), false⟩
def s__law_bag : Sd0 := ⟨PySem.Str.ofString "_law_bag", [PySem.Str.ofString "_law_script_here", PySem.Str.ofString "_law_k"], [PySem.Str.ofString "_law_script_here", PySem.Str.ofString "_law_k"], defArgs (top 53), defBody (top 53), defScope (top 53), false⟩
def s__law_take : Sd0 := ⟨PySem.Str.ofString "_law_take", [PySem.Str.ofString "_law_bag_here", PySem.Str.ofString "_law_many", PySem.Str.ofString "_law_draw"], [PySem.Str.ofString "_law_bag_here", PySem.Str.ofString "_law_many"], defArgs (top 54), defBody (top 54), defScope (top 54), false⟩
def s__law_script : Sd0 := ⟨PySem.Str.ofString "_law_script", [PySem.Str.ofString "_law_bag_here", PySem.Str.ofString "_law_legs_so", PySem.Str.ofString "_law_others", PySem.Str.ofString "_law_start", PySem.Str.ofString "_law_turn_so", PySem.Str.ofString "_law_place_here", PySem.Str.ofString "_law_found", PySem.Str.ofString "_law_goal"], [PySem.Str.ofString "_law_bag_here", PySem.Str.ofString "_law_legs_so", PySem.Str.ofString "_law_others"], defArgs (top 55), defBody (top 55), defScope (top 55), false⟩
def s__law_pair : Sd0 := ⟨PySem.Str.ofString "_law_pair", [PySem.Str.ofString "_law_bag_here", PySem.Str.ofString "_law_peak", PySem.Str.ofString "_law_mine", PySem.Str.ofString "_law_theirs"], [PySem.Str.ofString "_law_bag_here", PySem.Str.ofString "_law_peak"], defArgs (top 56), defBody (top 56), defScope (top 56), false⟩
def s__law_lowest : Sd0 := ⟨PySem.Str.ofString "_law_lowest", [PySem.Str.ofString "_law_top_here", PySem.Str.ofString "_law_below", PySem.Str.ofString "_law_sign", PySem.Str.ofString "_law_one", PySem.Str.ofString "_law_other"], [PySem.Str.ofString "_law_top_here", PySem.Str.ofString "_law_below"], defArgs (top 57), defBody (top 57), defScope (top 57), false⟩
def s__law_spots : Sd0 := ⟨PySem.Str.ofString "_law_spots", [PySem.Str.ofString "_law_script_here", PySem.Str.ofString "_law_found", PySem.Str.ofString "_law_word", PySem.Str.ofString "_law_number"], [PySem.Str.ofString "_law_script_here"], defArgs (top 58), defBody (top 58), defScope (top 58), false⟩
def s__law_clock : Sd0 := ⟨PySem.Str.ofString "_law_clock", [PySem.Str.ofString "_law_pair_here", PySem.Str.ofString "_law_paces", PySem.Str.ofString "_law_rows", PySem.Str.ofString "_law_more", PySem.Str.ofString "_law_who", PySem.Str.ofString "_law_at", PySem.Str.ofString "_law_word", PySem.Str.ofString "_law_number", PySem.Str.ofString "_law_late", PySem.Str.ofString "_law_others", PySem.Str.ofString "_law_far"], [PySem.Str.ofString "_law_pair_here", PySem.Str.ofString "_law_paces"], defArgs (top 59), defBody (top 59), defScope (top 59), false⟩
def s__law_top : Sd0 := ⟨PySem.Str.ofString "_law_top", [PySem.Str.ofString "_law_script_here", PySem.Str.ofString "_law_row", PySem.Str.ofString "_law_pace", PySem.Str.ofString "_law_time", PySem.Str.ofString "_law_spots_here", PySem.Str.ofString "_law_at", PySem.Str.ofString "_law_way", PySem.Str.ofString "_law_here", PySem.Str.ofString "_law_there"], [PySem.Str.ofString "_law_script_here", PySem.Str.ofString "_law_row", PySem.Str.ofString "_law_pace", PySem.Str.ofString "_law_time"], defArgs (top 60), defBody (top 60), defScope (top 60), false⟩
def s__law_gaps : Sd0 := ⟨PySem.Str.ofString "_law_gaps", [PySem.Str.ofString "_law_pair_here", PySem.Str.ofString "_law_paces", PySem.Str.ofString "_law_rows", PySem.Str.ofString "_law_gaps_here", PySem.Str.ofString "_law_time", PySem.Str.ofString "_law_at", PySem.Str.ofString "_law_marks", PySem.Str.ofString "_law_found", PySem.Str.ofString "_law_mine", PySem.Str.ofString "_law_last"], [PySem.Str.ofString "_law_pair_here", PySem.Str.ofString "_law_paces"], defArgs (top 61), defBody (top 61), defScope (top 61), false⟩
def s__law_together : Sd0 := ⟨PySem.Str.ofString "_law_together", [PySem.Str.ofString "_law_pair_here", PySem.Str.ofString "_law_paces", PySem.Str.ofString "_law_found", PySem.Str.ofString "_law_begin", PySem.Str.ofString "_law_end", PySem.Str.ofString "_law_here", PySem.Str.ofString "_law_later", PySem.Str.ofString "_law_mine", PySem.Str.ofString "_law_theirs", PySem.Str.ofString "_law_stop", PySem.Str.ofString "_law_whole", PySem.Str.ofString "_law_time"], [PySem.Str.ofString "_law_pair_here", PySem.Str.ofString "_law_paces"], defArgs (top 62), defBody (top 62), defScope (top 62), false⟩
def s__law_place : Sd0 := ⟨PySem.Str.ofString "_law_place", [PySem.Str.ofString "_law_pair_here", PySem.Str.ofString "_law_paces", PySem.Str.ofString "_law_time", PySem.Str.ofString "_law_longer", PySem.Str.ofString "_law_top_here", PySem.Str.ofString "_law_rows", PySem.Str.ofString "_law_below", PySem.Str.ofString "_law_moment"], [PySem.Str.ofString "_law_pair_here", PySem.Str.ofString "_law_paces", PySem.Str.ofString "_law_time"], defArgs (top 63), defBody (top 63), defScope (top 63), false⟩
def s__law_met : Sd0 := ⟨PySem.Str.ofString "_law_met", [PySem.Str.ofString "_law_pair_here", PySem.Str.ofString "_law_paces", PySem.Str.ofString "_law_found", PySem.Str.ofString "_law_begin", PySem.Str.ofString "_law_end", PySem.Str.ofString "_law_ahead", PySem.Str.ofString "_law_behind", PySem.Str.ofString "_law_kind"], [PySem.Str.ofString "_law_pair_here", PySem.Str.ofString "_law_paces"], defArgs (top 64), defBody (top 64), defScope (top 64), false⟩
def s__law_refused : Sd0 := ⟨PySem.Str.ofString "_law_refused", [PySem.Str.ofString "_law_pair_here", PySem.Str.ofString "_law_odd", PySem.Str.ofString "_law_words"], [PySem.Str.ofString "_law_pair_here"], defArgs (top 67), defBody (top 67), defScope (top 67), true⟩
def s_law : Sd0 := ⟨PySem.Str.ofString "law", [PySem.Str.ofString "_law_script_here", PySem.Str.ofString "_law_k", PySem.Str.ofString "_law_some", PySem.Str.ofString "_law_bag_here", PySem.Str.ofString "_law_pair_here", PySem.Str.ofString "_law_turn", PySem.Str.ofString "_law_paces", PySem.Str.ofString "_law_rows", PySem.Str.ofString "_law_far", PySem.Str.ofString "_law_who", PySem.Str.ofString "_law_time", PySem.Str.ofString "_law_top_here"], [PySem.Str.ofString "_law_script_here"], defArgs (top 68), defBody (top 68), defScope (top 68), false⟩
def s__law_named_error : Sd0 := ⟨PySem.Str.ofString "_law_named_error", [PySem.Str.ofString "_law_e", PySem.Str.ofString "_law_some", PySem.Str.ofString "_law_words", PySem.Str.ofString "_law_word", PySem.Str.ofString "_law_good"], [PySem.Str.ofString "_law_e"], defArgs (top 65), defBody (top 65), defScope (top 65), false⟩
def s__law_error : Sd0 := ⟨PySem.Str.ofString "_law_error", [PySem.Str.ofString "_law_call", PySem.Str.ofString "_law_e"], [PySem.Str.ofString "_law_call"], defArgs (top 66), defBody (top 66), defScope (top 66), false⟩
def Sp_0 : List Sd0 := [s_divisor_of, s_lowest, s_worth, s_is_plain, s_is_whole, s_is_leg, s_is_script, s_is_pair, s_need_pair, s_need_paces, s_need_walk, s_need_walker, s_minus, s_walked, s_place_ahead, s_more_times, s_times_at, s_moves_of, s_done_at, s_place_then, s_need_time, s_place_at, s_constant, s_quotient, s_crossing, s_sign_of, s_gap_then, s_whole_then, s_moving, s_met]
def Sp_1 : List Sd0 := [s_value_of, s_seen_at, s_meetings, s__law_cell, s__law_draws, s__law_bag, s__law_take, s__law_script, s__law_pair, s__law_lowest, s__law_spots, s__law_clock, s__law_top, s__law_gaps, s__law_together, s__law_place, s__law_met, s__law_refused, s_law]
def Sp : List Sd0 := Sp_0 ++ Sp_1
def Sds : List Sd0 := s__law_named_error :: s__law_error :: Sp
def tl : List PySem.Str := [PySem.Str.ofString "_law_refused"]
end Lw
end
section
set_option Elab.async false
set_option linter.all false
set_option maxRecDepth 100000
set_option maxHeartbeats 0
namespace Lw
open PySem PySem.W PySem.Calls PyProof.Rows
abbrev R : OpenRow := OpenLaw.row PySem.Challenge.rw_speedsopen_k02_whole_walks_with_known_pa
abbrev qv : Program := view R.prog [68]
def nm0 : List PySem.Str := [PySem.Str.ofString "SpeedError", PySem.Str.ofString "InvalidScript", PySem.Str.ofString "InvalidPair", PySem.Str.ofString "InvalidPaces", PySem.Str.ofString "InvalidWalker", PySem.Str.ofString "InvalidNumber", PySem.Str.ofString "InvalidFacts", PySem.Str.ofString "InvalidText", PySem.Str.ofString "NoRatio", PySem.Str.ofString "NothingToUndo", PySem.Str.ofString "divisor_of", PySem.Str.ofString "lowest", PySem.Str.ofString "worth", PySem.Str.ofString "FAR_END", PySem.Str.ofString "MOST_PACE", PySem.Str.ofString "is_plain", PySem.Str.ofString "is_whole", PySem.Str.ofString "is_leg", PySem.Str.ofString "is_script", PySem.Str.ofString "is_pair", PySem.Str.ofString "need_pair", PySem.Str.ofString "need_paces", PySem.Str.ofString "need_walk", PySem.Str.ofString "need_walker", PySem.Str.ofString "minus", PySem.Str.ofString "walked", PySem.Str.ofString "place_ahead", PySem.Str.ofString "more_times", PySem.Str.ofString "times_at", PySem.Str.ofString "moves_of", PySem.Str.ofString "done_at", PySem.Str.ofString "place_then", PySem.Str.ofString "need_time", PySem.Str.ofString "place_at", PySem.Str.ofString "constant", PySem.Str.ofString "quotient", PySem.Str.ofString "crossing", PySem.Str.ofString "sign_of", PySem.Str.ofString "gap_then", PySem.Str.ofString "whole_then"]
def nm1 : List PySem.Str := [PySem.Str.ofString "moving", PySem.Str.ofString "met", PySem.Str.ofString "value_of", PySem.Str.ofString "seen_at", PySem.Str.ofString "meetings", PySem.Str.ofString "_law_cell", PySem.Str.ofString "_law_draws", PySem.Str.ofString "_law_bag", PySem.Str.ofString "_law_take", PySem.Str.ofString "_law_script", PySem.Str.ofString "_law_pair", PySem.Str.ofString "_law_lowest", PySem.Str.ofString "_law_spots", PySem.Str.ofString "_law_clock", PySem.Str.ofString "_law_top", PySem.Str.ofString "_law_gaps", PySem.Str.ofString "_law_together", PySem.Str.ofString "_law_place", PySem.Str.ofString "_law_met", PySem.Str.ofString "_law_named_error", PySem.Str.ofString "_law_error", PySem.Str.ofString "_law_refused"]
def names : List PySem.Str := nm0 ++ nm1
def faL : List He.Fa := Pv.faOf Sds xcN intL ++ []
def fnL : List He.DefD := Sds.map Pv.dD
def tfL : List He.Defn := tl.map fun x => (x, none)
def exL (K : Frag) : Bool := Pv.exB K && Pv.tabNd tl K
abbrev hk : Hook := He.hookX 4 faL fnL [] tfL exL
def ob (s : SharedT) : He.AlX := He.obsX 4 faL fnL [] tfL exL (HandSHeadRun.getT s)
theorem ob_eq (s : SharedT) : ob s = hk.obs s.abs := He.obsX_eq (HandSHeadRun.getT_eq s)
theorem run (w : World) : HandSHeadRun.RunEq R qv hk ob 9000 names w := by
  intro os
  kernel_rfl
end Lw
end
section
set_option Elab.async false
set_option linter.all false
set_option maxRecDepth 100000
set_option maxHeartbeats 4000000
namespace Pv
open PySem PySem.Spec PyProof.Rows L2

section
variable (G : Wd) (ex : Nat → Value)
/-- a def's promise: g of the data -/
def lift (g : List D → So → FR) (n : Nat) : Sp := fun vs H Q E => ∃ μ ds S, vs.length = n ∧ RelL G μ H vs ds ∧ Cells G μ H S ∧ LamX.Tabs G.T H ∧ match g ds S with
  | .ok d S' => ∀ v H' μ', Ran G μ H μ' H' S' → Rel G μ' H' v d → Q v H'
  | .own xs S' => ∀ p vs H' μ', Ran G μ H μ' H' S' → H' p = some (.lst vs) → RelL G μ' H' vs xs → H p = none → p ∉ μ' → Q (.ref p) H'
  | .ex c S' => ∀ H' μ', Ran G μ H μ' H' S' → E (ex c) none H'
  | .bad => False
end

/-- where a body runs -/
structure Ctxt (G : Wd) (ex : Nat → Value) (Γ : Nm) (F : Nat → List D → So → FR) (gl : Nat → Option D) (lv : Nat) (X : Cx) (N : List Str) (sc : Scope) (top : Bool) : Prop where
  K : X.K = G.K
  NN : X.N = N
  nd : N.Nodup
  sc : X.env.scope = sc
  calm : X.calm = true
  room : Room lv X.A
  fns : ∀ (f : Nat) (x : Str), Γ.fn[f]? = some x → ∃ a fd ps, X.mg x = some (.ref a) ∧ PySem.W.keepIn X.K (.ref a) = true ∧ FnOk X.prog X.w X.K X.mg X.base (L2N.CX X.prog X.w) lv a fd ps (lift G ex (F f) ps.length) ∧ Binds X.K fd ps [] ∧ ∀ (ds : List D) (s : So), ds.length ≠ ps.length → F f ds s = .bad
  blt : ∀ x : Str, x ∈ (["len", "abs", "max", "min", "all", "any", "sum", "tuple", "list", "int", "str", "bool", "set", "sorted", "isinstance", "range", "enumerate", "zip"] : List Str) → X.mg x = none
  gls : ∀ (k : Nat) (x : Str) (d : D), Γ.gl[k]? = some x → gl k = some d → ∃ u v, X.mg x = some u ∧ RelV v u ∧ ∀ μ H, Rel G μ H v d
  fnt : top = true → ∀ x, X.fn x = true
  lam : Γ.lam = true → glbB X.env.scope "_law_error" = true → LamF G ex lv X

section
variable {G : Wd} {ex : Nat → Value} {Γ : Nm} {F : Nat → List D → So → FR} {gl : Nat → Option D} {lv : Nat} {X : Cx} {N : List Str} {sc : Scope} {top : Bool}
theorem Ctxt.vis (c : Ctxt G ex Γ F gl lv X N sc top) {i : Nat} {x : Str} (h : varB N sc i x = true) : X.N[i]? = some x ∧ Vis X.env.scope x ∧ (x == ("__debug__" : Str)) = false ∧ (x == ("__classdict__" : Str)) = false := by
  unfold varB at h
  simp only [Bool.and_eq_true, decide_eq_true_eq, Bool.not_eq_true'] at h
  obtain ⟨⟨⟨h1, h2⟩, h3⟩, h4⟩ := h
  refine ⟨by rw [c.NN]; exact h1, ?_, h3, h4⟩
  rw [c.sc]
  unfold visB at h2
  unfold Vis
  split at h2
  · exact .inl ‹_›
  · exact .inr (.inl ‹_›)
  · exact .inr (.inr ‹_›)
  · cases h2
theorem Ctxt.glb (c : Ctxt G ex Γ F gl lv X N sc top) {x : Str} (h : glbB sc x = true) : Gl X x := by
  unfold glbB at h
  show X.env.scope.names.lookup x = _
  rw [c.sc]
  exact of_decide_eq_true h
theorem Ctxt.sto (c : Ctxt G ex Γ F gl lv X N sc top) {i : Nat} {x : Str} (h : stB top N sc i x = true) : X.N[i]? = some x ∧ L2.Loc X.env.scope x ∧ (X.fn x = true ∨ X.env.scope.names.lookup x = some .local) := by
  unfold stB at h
  simp only [Bool.and_eq_true, decide_eq_true_eq] at h
  obtain ⟨h1, h2⟩ := h
  refine ⟨by rw [c.NN]; exact h1, ?_⟩
  rw [c.sc]
  unfold locB at h2
  unfold L2.Loc
  split at h2
  · exact ⟨.inl ‹_›, .inr ‹_›⟩
  · exact ⟨.inr ‹_›, .inl (c.fnt h2 x)⟩
  · cases h2
theorem Ctxt.hu (c : Ctxt G ex Γ F gl lv X N sc top) : X.A.units + 64 < cLine := c.room.units

abbrev RBl (G : Wd) (g : List D → Option D) : List V → Hp → VK → Prop := fun vs H Q => ∃ μ ds r, RelL G μ H vs ds ∧ g ds = some r ∧ ∀ v H', Same H H' → Rel G μ H' v r → Q v H'
theorem relL1 {μ : List Addr} {H : Hp} {vs : List V} {d : D} (r : RelL G μ H vs [d]) : ∃ v, vs = [v] ∧ Rel G μ H v d := by
  cases r with | cons a b => cases b; exact ⟨_, rfl, a⟩
theorem relL2 {μ : List Addr} {H : Hp} {vs : List V} {d e : D} (r : RelL G μ H vs [d, e]) : ∃ v w, vs = [v, w] ∧ Rel G μ H v d ∧ Rel G μ H w e := by
  cases r with | cons a b => cases b with | cons b t => cases t; exact ⟨_, _, rfl, a, b⟩
theorem len_ok (hK : X.K = G.K) : CallR X (.builtin "len") (RBl G (bltD .len)) := by
  intro pins s σ H vs us Q I r h
  refine call_len pins s σ H vs us Q I r ?_
  obtain ⟨μ, ds, x, rl, hf, q⟩ := h
  match ds, hf with
  | [.tup xs], hf =>
    obtain ⟨v, rfl, r1⟩ := relL1 rl
    obtain ⟨a, ws, rfl, h1, h2⟩ := rel_tup r1
    simp only [bltD, Option.some.injEq] at hf
    subst hf
    exact ⟨_, _, rfl, .inr ⟨ws, hK ▸ h1, rfl⟩, q _ _ Same.rfl' (by rw [h2.length]; exact .int _)⟩
  | [.lst xs], hf =>
    obtain ⟨v, rfl, r1⟩ := relL1 rl
    obtain ⟨a, ws, rfl, h1, h2⟩ := rel_lst r1
    simp only [bltD, Option.some.injEq] at hf
    subst hf
    exact ⟨_, _, rfl, .inl ⟨ws, h1.sq, rfl⟩, q _ _ Same.rfl' (by rw [h2.length]; exact .int _)⟩
  | [.scr ns], hf =>
    obtain ⟨v, rfl, r1⟩ := relL1 rl
    simp only [bltD, Option.some.injEq] at hf
    subst hf
    cases r1 with
    | scr h1 => exact ⟨_, _, rfl, .inl ⟨_, hK ▸ h1.sq, rfl⟩, q _ _ Same.rfl' (by rw [List.length_map]; exact .int _)⟩
  | [.str z], hf =>
    obtain ⟨v, rfl, r1⟩ := relL1 rl
    obtain rfl := rel_str r1
    simp only [bltD] at hf
    split at hf
    · cases hf
      exact ⟨_, _, rfl, ⟨‹_›, rfl⟩, q _ _ Same.rfl' (.int _)⟩
    · cases hf
theorem abs_ok : CallR X (.builtin "abs") (RBl G (bltD .abs)) := by
  intro pins s σ H vs us Q I r h
  refine call_abs pins s σ H vs us Q I r ?_
  obtain ⟨μ, ds, x, rl, hf, q⟩ := h
  match ds, hf with
  | [.int i], hf =>
    obtain ⟨v, rfl, r1⟩ := relL1 rl
    obtain rfl := rel_int r1
    simp only [bltD, Option.some.injEq] at hf
    subst hf
    exact ⟨i, rfl, q _ _ Same.rfl' (.int _)⟩
theorem max_ok (hc : X.calm = true) : CallR X (.builtin "max") (RBl G (bltD .max)) := by
  intro pins s σ H vs us Q I r h
  refine call_max2 hc pins s σ H vs us Q I r ?_
  obtain ⟨μ, ds, x, rl, hf, q⟩ := h
  match ds, hf with
  | [.int i, .int j], hf =>
    obtain ⟨v, w, rfl, r1, r2⟩ := relL2 rl
    obtain rfl := rel_int r1
    obtain rfl := rel_int r2
    simp only [bltD, Option.some.injEq] at hf
    subst hf
    exact ⟨i, j, rfl, q _ _ Same.rfl' (.int _)⟩
theorem min_ok (hc : X.calm = true) : CallR X (.builtin "min") (RBl G (bltD .min)) := by
  intro pins s σ H vs us Q I r h
  refine call_min2 hc pins s σ H vs us Q I r ?_
  obtain ⟨μ, ds, x, rl, hf, q⟩ := h
  match ds, hf with
  | [.int i, .int j], hf =>
    obtain ⟨v, w, rfl, r1, r2⟩ := relL2 rl
    obtain rfl := rel_int r1
    obtain rfl := rel_int r2
    simp only [bltD, Option.some.injEq] at hf
    subst hf
    exact ⟨i, j, rfl, q _ _ Same.rfl' (.int _)⟩
theorem all_ok (hc : X.calm = true) : CallR X (.builtin "all") (RBl G (bltD .all)) := by
  intro pins s σ H vs us Q I r h
  refine cr_all hc pins s σ H vs us Q I r ?_
  obtain ⟨μ, ds, x, rl, hf, q⟩ := h
  match ds, hf with
  | [.lst xs], hf =>
    obtain ⟨v, rfl, r1⟩ := relL1 rl
    obtain ⟨a, ws, rfl, h1, h2⟩ := rel_lst r1
    simp only [bltD, Option.map_eq_some_iff] at hf
    obtain ⟨l, e, rfl⟩ := hf
    exact ⟨a, l, rfl, by rw [← blsOf_rel h2 e]; exact h1.sq, q _ _ Same.rfl' (.bl _)⟩
theorem any_ok (hc : X.calm = true) : CallR X (.builtin "any") (RBl G (bltD .any)) := by
  intro pins s σ H vs us Q I r h
  refine cr_any hc pins s σ H vs us Q I r ?_
  obtain ⟨μ, ds, x, rl, hf, q⟩ := h
  match ds, hf with
  | [.lst xs], hf =>
    obtain ⟨v, rfl, r1⟩ := relL1 rl
    obtain ⟨a, ws, rfl, h1, h2⟩ := rel_lst r1
    simp only [bltD, Option.map_eq_some_iff] at hf
    obtain ⟨l, e, rfl⟩ := hf
    exact ⟨a, l, rfl, by rw [← blsOf_rel h2 e]; exact h1.sq, q _ _ Same.rfl' (.bl _)⟩
theorem sum_ok (hc : X.calm = true) : CallR X (.builtin "sum") (RBl G (bltD .sum)) := by
  intro pins s σ H vs us Q I r h
  refine cr_sum hc pins s σ H vs us Q I r ?_
  obtain ⟨μ, ds, x, rl, hf, q⟩ := h
  match ds, hf with
  | [.lst xs], hf =>
    obtain ⟨v, rfl, r1⟩ := relL1 rl
    obtain ⟨a, ws, rfl, h1, h2⟩ := rel_lst r1
    simp only [bltD, Option.map_eq_some_iff] at hf
    obtain ⟨l, e, rfl⟩ := hf
    exact ⟨a, l, rfl, by rw [← intsOf_rel h2 e]; exact h1.sq, q _ _ Same.rfl' (.int _)⟩
theorem tuple_ok (hK : X.K = G.K) : CallR X (.type "tuple") (RBl G (bltD .tuple)) := by
  intro pins s σ H vs us Q I r h
  refine call_tuple_of pins s σ H vs us Q I r ?_
  obtain ⟨μ, ds, x, rl, hf, q⟩ := h
  match ds, hf with
  | [.lst xs], hf =>
    obtain ⟨v, rfl, r1⟩ := relL1 rl
    obtain ⟨a, ws, rfl, h1, h2⟩ := rel_lst r1
    simp only [bltD, Option.some.injEq] at hf
    subst hf
    exact ⟨a, ws, rfl, .inl ⟨h1.sq, fun p hp => q _ _ (Same.upd hp) (relTup hp h2)⟩⟩
  | [.tup xs], hf =>
    obtain ⟨v, rfl, r1⟩ := relL1 rl
    obtain ⟨a, ws, rfl, h1, h2⟩ := rel_tup r1
    simp only [bltD, Option.some.injEq] at hf
    subst hf
    exact ⟨a, ws, rfl, .inr ⟨hK ▸ h1, q _ _ Same.rfl' r1⟩⟩
theorem list_ok (hK : X.K = G.K) : CallR X (.type "list") (RBl G (bltD .list)) := by
  intro pins s σ H vs us Q I r h
  obtain ⟨μ, ds, x, rl, hf, q⟩ := h
  have fin : ∀ {a : Addr} {ws : List V} {xs : List D}, vs = [.ref a] → (SqL X.K H a ws ∨ SqT X.K H a ws) → RelL G μ H ws xs → x = .lst xs → wpAny (model X.prog X.w) X.A (call (.type "list") us) (EP X pins σ Q) X.xe s := fun {a ws xs} e1 e2 e3 e4 => by
    refine thn (call_list_of pins s σ H vs us (fun v H1 => ∃ p, v = .ref p ∧ H p = none ∧ H1 = upd H p (.lst ws)) I r ⟨a, ws, e1, e2, fun p hp => ⟨p, rfl, hp, rfl⟩⟩) fun w s' z => ep_frz z fun v H1 ⟨p, g1, g2, g3⟩ => ?_
    subst g1 g3 e4
    refine ⟨p, _, rfl, upd_same, fun o => ?_⟩
    rw [upd_frz]
    exact q _ _ (Same.upd g2) (relLst g2 e3)
  match ds, hf with
  | [.lst xs], hf =>
    obtain ⟨v, rfl, r1⟩ := relL1 rl
    obtain ⟨a, ws, rfl, h1, h2⟩ := rel_lst r1
    simp only [bltD, Option.some.injEq] at hf
    exact fin rfl (.inl h1.sq) h2 hf.symm
  | [.tup xs], hf =>
    obtain ⟨v, rfl, r1⟩ := relL1 rl
    obtain ⟨a, ws, rfl, h1, h2⟩ := rel_tup r1
    simp only [bltD, Option.some.injEq] at hf
    exact fin rfl (.inr (hK ▸ h1)) h2 hf.symm
theorem int_ok : CallR X (.type "int") (RBl G (bltD .int)) := by
  intro pins s σ H vs us Q I r h
  refine call_int1 pins s σ H vs us Q I r ?_
  obtain ⟨μ, ds, x, rl, hf, q⟩ := h
  match ds, hf with
  | [.int i], hf =>
    obtain ⟨v, rfl, r1⟩ := relL1 rl
    obtain rfl := rel_int r1
    simp only [bltD, Option.some.injEq] at hf
    subst hf
    exact .inl ⟨i, rfl, q _ _ Same.rfl' (.int _)⟩
  | [.bl b], hf =>
    obtain ⟨v, rfl, r1⟩ := relL1 rl
    obtain rfl := rel_bl r1
    simp only [bltD, Option.some.injEq] at hf
    subst hf
    exact .inr ⟨b, rfl, q _ _ Same.rfl' (.int _)⟩
theorem bool_ok : CallR X (.type "bool") (RBl G (bltD .bool)) := by
  intro pins s σ H vs us Q I r h
  refine call_bool1 pins s σ H vs us Q I r ?_
  obtain ⟨μ, ds, x, rl, hf, q⟩ := h
  match ds, hf with
  | [.bl b], hf =>
    obtain ⟨v, rfl, r1⟩ := relL1 rl
    obtain rfl := rel_bl r1
    simp only [bltD, Option.some.injEq] at hf
    subst hf
    exact .inr ⟨b, rfl, q _ _ Same.rfl' (.bl _)⟩
theorem str_ok : CallR X (.type "str") (RBl G (bltD .str)) := by
  intro pins s σ H vs us Q I r h
  refine call_str_int pins s σ H vs us Q I r ?_
  obtain ⟨μ, ds, x, rl, hf, q⟩ := h
  match ds, hf with
  | [.int i], hf =>
    obtain ⟨v, rfl, r1⟩ := relL1 rl
    obtain rfl := rel_int r1
    simp only [bltD] at hf
    split at hf
    · cases hf
      exact ⟨i, rfl, ‹_›, q _ _ Same.rfl' (.str _)⟩
    · cases hf

def Ty.ty : Ty → String
  | .int => "int" | .bool => "bool" | .tuple => "tuple" | .str => "str" | .list => "list"
theorem isi_ok (hK : X.K = G.K) (t : Ty) : CallR X (.builtin "isinstance") (fun vs H Q => ∃ μ v d b, vs = [v, .ty t.ty] ∧ Rel G μ H v d ∧ isiD d t = some b ∧ Q (.bl b) H) := by
  intro pins s σ H vs us Q I r h
  refine call_isi pins s σ H vs us Q I r ?_
  obtain ⟨μ, v, d, b, rfl, rv, hf, q⟩ := h
  have fin : ∀ {T : String}, TyX X.K H v (.type T) → kitB T t.ty = some b → rIsi X.K [v, .ty t.ty] H Q := fun {T} h1 h2 => ⟨v, .ty t.ty, .type T, .type t.ty, b, rfl, .ty _, h1, kit_ty h2, q⟩
  cases rv with
  | non =>
    simp only [isiD, Option.some.injEq] at hf
    subst hf
    exact fin (.base .non) (by cases t <;> decide +kernel)
  | bl c =>
    simp only [isiD, Option.some.injEq] at hf
    subst hf
    exact fin (.base (.bl c)) (by cases t <;> decide +kernel)
  | int i =>
    simp only [isiD, tyD, Option.some.injEq] at hf
    subst hf
    exact fin (.base (.int i)) (by cases t <;> decide +kernel)
  | str x =>
    simp only [isiD, tyD, Option.some.injEq] at hf
    subst hf
    exact fin (.base (.str x)) (by cases t <;> decide +kernel)
  | tup h1 h2 =>
    simp only [isiD, tyD, Option.some.injEq] at hf
    subst hf
    have hk : kitB "tuple" t.ty = some (decide (Ty.tuple = t)) := by cases t <;> decide +kernel
    rcases h1 with (h1 | ⟨o, h1⟩) | ⟨o, its, n, h1, h3, _⟩
    · exact fin (.base (.tup h1)) hk
    · exact fin (.fTuple h1) hk
    · exact fin (.kTuple (hK ▸ h1) h3) hk
  | lst h1 h2 =>
    simp only [isiD, tyD, Option.some.injEq] at hf
    subst hf
    have hk : kitB "list" t.ty = some (decide (Ty.list = t)) := by cases t <;> decide +kernel
    obtain ⟨o, h1⟩ := h1
    exact fin (.base (.frz h1)) hk
  | ob h1 => simp [isiD] at hf
  | scr h1 => simp [isiD] at hf
end
end Pv
end
section
set_option Elab.async false
set_option linter.all false
set_option maxRecDepth 100000
set_option maxHeartbeats 4000000
namespace Pv
open PySem PySem.Spec PyProof.Rows L2

section
variable {G : Wd} {ex : Nat → Value} {μ0 μ : List Addr} {H0 H : Hp} {W : WX} {α β A B : Type} {RA : List Addr → Hp → A → α → Prop} {RB' : List Addr → Hp → B → β → Prop} {σ : L2.St}
theorem TMa.ofb {o : Option α} {f : α → M β} {Q : B → Hp → Prop} (h : TMa G ex μ0 H0 W RB' μ ((M.of o).bind f) σ H Q) : ∃ a, o = some a ∧ TMa G ex μ0 H0 W RB' μ (f a) σ H Q := by
  obtain ⟨ρ, S, J, h⟩ := h
  obtain ⟨a, e, h⟩ := post_of (post_bind h)
  exact ⟨a, e, ρ, S, J, h⟩
/-- the slot is read -/
theorem TMa.sh {i : Nat} {f : D → M β} {Q : B → Hp → Prop} (h : TMa G ex μ0 H0 W RB' μ ((getSh i).bind f) σ H Q) : ∃ d v, σ[i]? = some (some v) ∧ Rel G μ H v d ∧ TMa G ex μ0 H0 W RB' μ (f d) σ H Q := by
  obtain ⟨ρ, S, J, h⟩ := h
  have h := post_bind h
  unfold getSh at h
  split at h
  · rename_i d e
    obtain ⟨v, h1, h2⟩ := J.sh i d e
    exact ⟨d, v, h1, h2, ρ, S, J, h⟩
  · exact h.elim
theorem TMa.ow {i : Nat} {f : List D → M β} {Q : B → Hp → Prop} (h : TMa G ex μ0 H0 W RB' μ ((getOw i).bind f) σ H Q) : ∃ ds p vs, σ[i]? = some (some (.ref p)) ∧ H p = some (.lst vs) ∧ RelL G μ H vs ds ∧ TMa G ex μ0 H0 W RB' μ (f ds) σ H Q := by
  obtain ⟨ρ, S, J, h⟩ := h
  have h := post_bind h
  unfold getOw at h
  split at h
  · rename_i ds e
    obtain ⟨p, vs, h1, h2, h3, _⟩ := J.ow i ds e
    exact ⟨ds, p, vs, h1, h2, h3, ρ, S, J, h⟩
  · exact h.elim
end

section
variable {G : Wd} {ex : Nat → Value} {μ0 : List Addr} {H0 : Hp} {W : WX} {X : Cx}
/-- m is what e is worth -/
abbrev SE (G : Wd) (ex : Nat → Value) (μ0 : List Addr) (H0 : Hp) (W : WX) (X : Cx) (e : Expr) (m : M D) : Prop := PE X e (TM G ex μ0 H0 W (Rel G) m)
abbrev SEs (G : Wd) (ex : Nat → Value) (μ0 : List Addr) (H0 : Hp) (W : WX) (X : Cx) (e : List Expr) (m : M (List D)) : Prop := PA X e (TM G ex μ0 H0 W (RelL G) m)
abbrev ST (G : Wd) (ex : Nat → Value) (μ0 : List Addr) (H0 : Hp) (W : WX) (X : Cx) (e : Expr) (m : M Bool) : Prop := PT X e (TM G ex μ0 H0 W RB m)
theorem PE.imp {e : Expr} {t t' : TE} (h : PE X e t) (k : ∀ σ H Q, t' σ H Q → t σ H Q) : PE X e t' := ⟨fun pins s σ H Q I x => h.run pins s σ H Q I (k σ H Q x)⟩
theorem PT.imp {e : Expr} {t t' : TT} (h : PT X e t) (k : ∀ σ H Q, t' σ H Q → t σ H Q) : PT X e t' := ⟨fun pins s σ H Q I x => h.run pins s σ H Q I (k σ H Q x)⟩
theorem PA.imp {e : List Expr} {t t' : TA} (h : PA X e t) (k : ∀ σ H Q, t' σ H Q → t σ H Q) : PA X e t' := ⟨fun pos pins s σ H Q I x => h.run pos pins s σ H Q I (k σ H Q x)⟩
variable {a b c : Expr} {ma mb mc : M D} {pos : Pos}

theorem s_vr {i : Nat} {x : Str} (h1 : X.N[i]? = some x) (h2 : Vis X.env.scope x) (h3 : (x == ("__debug__" : Str)) = false) (h4 : (x == ("__classdict__" : Str)) = false) : SE G ex μ0 H0 W X (.Name x pos) (getSh i) := by
  refine PE.imp (pe_var h1 h2 h3 h4) fun σ H Q ⟨μ, h⟩ => ?_
  obtain ⟨ρ, S, J, h⟩ := h
  unfold getSh at h
  split at h
  · rename_i d e
    obtain ⟨v, g1, g2⟩ := J.sh i d e
    exact ⟨v, g1, h v H μ (List.prefix_refl _) (Keep.refl H) J g2⟩
  · exact h.elim
theorem s_pure {e : Expr} {v : V} {d : D} (h : PE X e (tC v)) (r : ∀ μ H, Rel G μ H v d) : SE G ex μ0 H0 W X e (M.pure d) :=
  PE.imp h fun σ H Q ⟨μ, x⟩ => x.ret v H Same.rfl' (r μ H)
theorem s_gl {e : Expr} {o : Option D} (h : ∀ d, o = some d → ∃ v, PE X e (tC v) ∧ ∀ μ H, Rel G μ H v d) : SE G ex μ0 H0 W X e (M.of o) := by
  refine ⟨fun pins s σ H Q I ⟨μ, x⟩ => ?_⟩
  obtain ⟨d, e1, q⟩ := x.of
  obtain ⟨v, h1, h2⟩ := h d e1
  exact h1.run pins s σ H Q I (q v H Same.rfl' (h2 μ H))
theorem s_nil : SEs G ex μ0 H0 W X [] (M.pure []) := PA.imp pa_nil fun σ H Q ⟨μ, x⟩ => x.ret [] H Same.rfl' .nil
theorem starEach_cons {e : Expr} {es : List Expr} {env : Env} (h : notStar e = true) : starEach (e :: es) env = (false, eval e env) :: starEach es env := by
  cases e <;> first | rfl | (simp [notStar] at h)
theorem s_cons {es : List Expr} {ms : M (List D)} (ha : SE G ex μ0 H0 W X a ma) (hs : SEs G ex μ0 H0 W X es ms) (hn : notStar a = true) : SEs G ex μ0 H0 W X (a :: es) (ma.bind fun x => ms.bind fun xs => M.pure (x :: xs)) := by
  refine PA.imp (pa_cons ha hs (starEach_cons hn)) fun σ H Q ⟨μ, x⟩ => ?_
  refine ⟨μ, (TMa.bind x).imp fun v H1 ⟨d, μ1, p, k, r, h1⟩ => ⟨μ1, (TMa.bind h1).imp fun vs H2 ⟨ds, μ2, p2, k2, r2, h2⟩ => ?_⟩⟩
  exact h2.ret _ _ Same.rfl' (.cons (Rel.mono p2 k2 _ _ r) r2)
theorem s_bin (hK : X.K = G.K) {o : BOp} (ha : SE G ex μ0 H0 W X a ma) (hb : SE G ex μ0 H0 W X b mb) : SE G ex μ0 H0 W X (.BinOp a o.py b pos) (ma.bind fun x => mb.bind fun y => M.of (binD o x y)) := by
  refine PE.imp (pe_op (bin_ok hK o) ha hb) fun σ H Q ⟨μ, x⟩ => ?_
  refine ⟨μ, (TMa.bind x).imp fun v H1 ⟨d, μ1, p, k, r, h1⟩ => ⟨μ1, (TMa.bind h1).imp fun w H2 ⟨e, μ2, p2, k2, r2, h2⟩ => ?_⟩⟩
  obtain ⟨z, e1, q⟩ := h2.of
  exact ⟨μ2, d, e, z, Rel.mono p2 k2 _ _ r, r2, e1, q⟩
theorem s_pow {i j : Int} {k1 k2 : Nat} {p1 p2 : Pos} : SE G ex μ0 H0 W X (.BinOp (.Constant (.int i) k1 p1) .Pow (.Constant (.int j) k2 p2) pos) (M.of (powD i j)) := by
  refine PE.imp (pe_op op_pow pe_int pe_int) fun σ H Q ⟨μ, x⟩ => ?_
  obtain ⟨z, e, q⟩ := x.of
  unfold powD at e
  split at e
  · rename_i hc
    cases e
    exact ⟨i, j, rfl, rfl, ⟨hc.1, by omega, by omega⟩, q _ _ Same.rfl' (.int _)⟩
  · cases e
theorem s_neg (ha : SE G ex μ0 H0 W X a ma) : SE G ex μ0 H0 W X (.UnaryOp .USub a pos) (ma.bind fun x => M.of (negD x)) := by
  refine PE.imp (pe_un un_neg ha) fun σ H Q ⟨μ, x⟩ => ?_
  refine ⟨μ, (TMa.bind x).imp fun v H1 ⟨d, μ1, p, k, r, h1⟩ => ?_⟩
  obtain ⟨z, e, q⟩ := h1.of
  cases d with
  | int i =>
    simp only [negD, Option.some.injEq] at e
    subst e
    exact ⟨i, rel_int r, q _ _ Same.rfl' (.int _)⟩
  | _ => simp [negD] at e
theorem s_cmp (hK : X.K = G.K) (hu : X.A.units + 64 < cLine) {o : COp} (ha : SE G ex μ0 H0 W X a ma) (hb : SE G ex μ0 H0 W X b mb) (hm : behindInMarks o.py b = false) : SE G ex μ0 H0 W X (.Compare a [o.py] [b] pos) (ma.bind fun x => mb.bind fun y => M.of ((cmpD o x y).map .bl)) := by
  refine PE.imp (pe_cmpR (cmp_ok hK hu o) ha hb hm) fun σ H Q ⟨μ, x⟩ => ?_
  refine ⟨μ, (TMa.bind x).imp fun v H1 ⟨d, μ1, p, k, r, h1⟩ => ⟨μ1, (TMa.bind h1).imp fun w H2 ⟨e, μ2, p2, k2, r2, h2⟩ => ?_⟩⟩
  obtain ⟨z, e1, q⟩ := h2.of
  obtain ⟨t, e2, rfl⟩ := Option.map_eq_some_iff.mp e1
  exact ⟨μ2, d, e, t, Rel.mono p2 k2 _ _ r, r2, e2, q _ _ Same.rfl' (.bl _)⟩
theorem s_chn (hK : X.K = G.K) (hu : X.A.units + 64 < cLine) {o1 o2 : COp} (ha : SE G ex μ0 H0 W X a ma) (hb : SE G ex μ0 H0 W X b mb) (hc : SE G ex μ0 H0 W X c mc) (hm : lastMarks [o1.py, o2.py] [b, c] = false) :
    SE G ex μ0 H0 W X (.Compare a [o1.py, o2.py] [b, c] pos) (ma.bind fun x => mb.bind fun y => (M.of (cmpD o1 x y)).bind fun t => if t then mc.bind fun z => M.of ((cmpD o2 y z).map .bl) else M.pure (.bl false)) := by
  refine PE.imp (pe_chain (cmp_ok hK hu o1) (cmp_ok hK hu o2) ha hb hc hm) fun σ H Q ⟨μ, x⟩ => ?_
  refine ⟨μ, (TMa.bind x).imp fun v H1 ⟨d, μ1, p, k, r, h1⟩ => ⟨μ1, (TMa.bind h1).imp fun w H2 ⟨e, μ2, p2, k2, r2, h2⟩ => ?_⟩⟩
  obtain ⟨t, e1, h3⟩ := h2.ofb
  refine ⟨μ2, d, e, t, Rel.mono p2 k2 _ _ r, r2, e1, t, rfl, ?_⟩
  cases t with
  | true =>
    rw [if_pos rfl] at h3 ⊢
    refine ⟨μ2, (TMa.bind h3).imp fun u H3 ⟨f, μ3, p3, k3, r3, h4⟩ => ?_⟩
    obtain ⟨z, e3, q⟩ := h4.of
    obtain ⟨t, e4, rfl⟩ := Option.map_eq_some_iff.mp e3
    exact ⟨μ3, e, f, t, Rel.mono p3 k3 _ _ r2, r3, e4, q _ _ Same.rfl' (.bl _)⟩
  | false =>
    rw [if_neg (by decide)] at h3 ⊢
    exact h3.ret _ _ Same.rfl' (.bl _)
theorem s_isn (neg : Bool) {k : Nat} {p2 : Pos} (ha : SE G ex μ0 H0 W X a ma) : SE G ex μ0 H0 W X (.Compare a [if neg then .IsNot else .Is] [.Constant .none k p2] pos) (ma.bind fun x => M.pure (.bl (match x with | .non => !neg | _ => neg))) := by
  have key : ∀ {v : V} {d : D} {μ : List Addr} {H : Hp}, Rel G μ H v d → decide (v = .non) = (match d with | .non => true | _ => false) := fun r => by cases r <;> rfl
  cases neg with
  | false =>
    refine PE.imp (pe_cmp (pc_isN ha)) fun σ H Q ⟨μ, x⟩ => ?_
    refine ⟨μ, (TMa.bind x).imp fun v H1 ⟨d, μ1, p, k, r, h1⟩ => ?_⟩
    have q := h1.ret (.bl (decide (v = .non))) H1 Same.rfl' (by rw [key r]; cases d <;> exact .bl _)
    exact q
  | true =>
    refine PE.imp (pe_cmp (pc_notN ha)) fun σ H Q ⟨μ, x⟩ => ?_
    refine ⟨μ, (TMa.bind x).imp fun v H1 ⟨d, μ1, p, k, r, h1⟩ => ?_⟩
    have q := h1.ret (.bl (!decide (v = .non))) H1 Same.rfl' (by rw [key r]; cases d <;> exact .bl _)
    exact q
end
end Pv
end
section
set_option Elab.async false
set_option linter.all false
set_option maxRecDepth 100000
set_option maxHeartbeats 4000000
namespace Pv
open PySem PySem.Spec PyProof.Rows L2

section
variable {G : Wd} {ex : Nat → Value} {μ0 : List Addr} {H0 : Hp} {W : WX} {X : Cx} {a b c : Expr} {ma mb mc : M D} {mt : M Bool} {pos : Pos}
theorem s_isb (neg : Bool) {k : Nat} {p2 : Pos} {t : Bool} (ha : SE G ex μ0 H0 W X a ma) : SE G ex μ0 H0 W X (.Compare a [if neg then .IsNot else .Is] [.Constant (.bool t) k p2] pos) (ma.bind fun x => (M.of (asB x)).bind fun c => M.pure (.bl (xor neg (decide (c = t))))) := by
  have key : ∀ {v : V} {d : D} {μ : List Addr} {H : Hp} {c : Bool}, Rel G μ H v d → asB d = some c → v = .bl c := fun {v d μ H c} r e => by
    cases d with
    | bl b => simp only [asB, Option.some.injEq] at e; subst e; exact rel_bl r
    | _ => simp [asB] at e
  cases neg with
  | false =>
    refine PE.imp (pe_cmpR op_isBl ha (pe_bl (b := t)) (by rfl)) fun σ H Q ⟨μ, x⟩ => ?_
    refine ⟨μ, (TMa.bind x).imp fun v H1 ⟨d, μ1, p, k, r, h1⟩ => ?_⟩
    obtain ⟨c, e, h2⟩ := h1.ofb
    exact ⟨c, t, key r e, rfl, by have q := h2.ret (.bl (xor false (decide (c = t)))) H1 Same.rfl' (.bl _); rwa [Bool.false_xor] at q⟩
  | true =>
    refine PE.imp (pe_cmpR op_notBl ha (pe_bl (b := t)) (by rfl)) fun σ H Q ⟨μ, x⟩ => ?_
    refine ⟨μ, (TMa.bind x).imp fun v H1 ⟨d, μ1, p, k, r, h1⟩ => ?_⟩
    obtain ⟨c, e, h2⟩ := h1.ofb
    exact ⟨c, t, key r e, rfl, by have q := h2.ret (.bl (xor true (decide (c = t)))) H1 Same.rfl' (.bl _); rwa [Bool.true_xor] at q⟩

theorem TMa.tst {μ : List Addr} {σ : L2.St} {H : Hp} {Q : Bool → Hp → Prop} {m : M D} (h : TMa G ex μ0 H0 W RB μ (tst m) σ H Q) : TMa G ex μ0 H0 W (Rel G) μ m σ H fun x H1 => ∃ k, x = .bl k ∧ Q k H1 := by
  refine (TMa.bind h).imp fun v H1 ⟨d, μ1, p, k, r, h1⟩ => ?_
  obtain ⟨c, e, q⟩ := h1.of
  cases d with
  | bl b =>
    simp only [asB, Option.some.injEq] at e
    subst e
    exact ⟨b, rel_bl r, q _ _ Same.rfl' rfl⟩
  | _ => simp [asB] at e
/-- where the test is the value's truth -/
theorem t_val {e : Expr} {m : M D} (h : SE G ex μ0 H0 W X e m) (he : ∀ whole, isTrue e X.env whole = (do let v ← whole; standAt e.pos; holding [v] (truthy v))) : ST G ex μ0 H0 W X e (tst m) :=
  PT.imp (pt_val h he) fun σ H Q ⟨μ, x⟩ => ⟨μ, x.tst⟩
theorem t_cmp (hK : X.K = G.K) (hu : X.A.units + 64 < cLine) {o : COp} (ha : SE G ex μ0 H0 W X a ma) (hb : SE G ex μ0 H0 W X b mb) (hm : behindInMarks o.py b = false) : ST G ex μ0 H0 W X (.Compare a [o.py] [b] pos) (tst (ma.bind fun x => mb.bind fun y => M.of ((cmpD o x y).map .bl))) := by
  refine PT.imp (pt_cmpR (cmp_ok hK hu o) ha hb hm) fun σ H Q ⟨μ, x⟩ => ?_
  refine ⟨μ, (TMa.bind (TMa.tst x)).imp fun v H1 ⟨d, μ1, p, k, r, h1⟩ => ⟨μ1, (TMa.bind h1).imp fun w H2 ⟨e, μ2, p2, k2, r2, h2⟩ => ?_⟩⟩
  obtain ⟨z, e1, q⟩ := h2.of
  obtain ⟨t, e2, rfl⟩ := Option.map_eq_some_iff.mp e1
  exact ⟨μ2, d, e, t, Rel.mono p2 k2 _ _ r, r2, e2, q _ _ Same.rfl' (.bl _)⟩
theorem t_chn (hK : X.K = G.K) (hu : X.A.units + 64 < cLine) {o1 o2 : COp} (ha : SE G ex μ0 H0 W X a ma) (hb : SE G ex μ0 H0 W X b mb) (hc : SE G ex μ0 H0 W X c mc) (hm : lastMarks [o1.py, o2.py] [b, c] = false) :
    ST G ex μ0 H0 W X (.Compare a [o1.py, o2.py] [b, c] pos) (tst (ma.bind fun x => mb.bind fun y => (M.of (cmpD o1 x y)).bind fun t => if t then mc.bind fun z => M.of ((cmpD o2 y z).map .bl) else M.pure (.bl false))) := by
  refine PT.imp (pt_chain (cmp_ok hK hu o1) (cmp_ok hK hu o2) ha hb hc hm) fun σ H Q ⟨μ, x⟩ => ?_
  refine ⟨μ, (TMa.bind (TMa.tst x)).imp fun v H1 ⟨d, μ1, p, k, r, h1⟩ => ⟨μ1, (TMa.bind h1).imp fun w H2 ⟨e, μ2, p2, k2, r2, h2⟩ => ?_⟩⟩
  obtain ⟨t, e1, h3⟩ := h2.ofb
  refine ⟨μ2, d, e, t, Rel.mono p2 k2 _ _ r, r2, e1, t, rfl, ?_⟩
  cases t with
  | true =>
    rw [if_pos rfl] at h3 ⊢
    refine ⟨μ2, (TMa.bind h3).imp fun u H3 ⟨f, μ3, p3, k3, r3, h4⟩ => ?_⟩
    obtain ⟨z, e3, q⟩ := h4.of
    obtain ⟨t, e4, rfl⟩ := Option.map_eq_some_iff.mp e3
    exact ⟨μ3, e, f, t, Rel.mono p3 k3 _ _ r2, r3, e4, q _ _ Same.rfl' (.bl _)⟩
  | false =>
    rw [if_neg (by decide)] at h3 ⊢
    exact h3.ret _ _ Same.rfl' (.bl _)
theorem t_isn (neg : Bool) {k : Nat} {p2 : Pos} (ha : SE G ex μ0 H0 W X a ma) : ST G ex μ0 H0 W X (.Compare a [if neg then .IsNot else .Is] [.Constant .none k p2] pos) (tst (ma.bind fun x => M.pure (.bl (match x with | .non => !neg | _ => neg)))) := by
  have key : ∀ {v : V} {d : D} {μ : List Addr} {H : Hp}, Rel G μ H v d → decide (v = .non) = (match d with | .non => true | _ => false) := fun r => by cases r <;> rfl
  cases neg with
  | false =>
    refine PT.imp (pt_cmp (pc_isN ha)) fun σ H Q ⟨μ, x⟩ => ?_
    refine ⟨μ, (TMa.bind (TMa.tst x)).imp fun v H1 ⟨d, μ1, p, k, r, h1⟩ => ?_⟩
    have q := h1.ret (.bl (decide (v = .non))) H1 Same.rfl' (by rw [key r]; cases d <;> exact .bl _)
    exact q
  | true =>
    refine PT.imp (pt_cmp (pc_notN ha)) fun σ H Q ⟨μ, x⟩ => ?_
    refine ⟨μ, (TMa.bind (TMa.tst x)).imp fun v H1 ⟨d, μ1, p, k, r, h1⟩ => ?_⟩
    have q := h1.ret (.bl (!decide (v = .non))) H1 Same.rfl' (by rw [key r]; cases d <;> exact .bl _)
    exact q
theorem t_isb (neg : Bool) {k : Nat} {p2 : Pos} {t : Bool} (ha : SE G ex μ0 H0 W X a ma) : ST G ex μ0 H0 W X (.Compare a [if neg then .IsNot else .Is] [.Constant (.bool t) k p2] pos) (tst (ma.bind fun x => (M.of (asB x)).bind fun c => M.pure (.bl (xor neg (decide (c = t)))))) := by
  have key : ∀ {v : V} {d : D} {μ : List Addr} {H : Hp} {c : Bool}, Rel G μ H v d → asB d = some c → v = .bl c := fun {v d μ H c} r e => by
    cases d with
    | bl b => simp only [asB, Option.some.injEq] at e; subst e; exact rel_bl r
    | _ => simp [asB] at e
  cases neg with
  | false =>
    refine PT.imp (pt_cmpR op_isBl ha (pe_bl (b := t)) (by rfl)) fun σ H Q ⟨μ, x⟩ => ?_
    refine ⟨μ, (TMa.bind (TMa.tst x)).imp fun v H1 ⟨d, μ1, p, k, r, h1⟩ => ?_⟩
    obtain ⟨c, e, h2⟩ := h1.ofb
    exact ⟨c, t, key r e, rfl, by have q := h2.ret (.bl (xor false (decide (c = t)))) H1 Same.rfl' (.bl _); rwa [Bool.false_xor] at q⟩
  | true =>
    refine PT.imp (pt_cmpR op_notBl ha (pe_bl (b := t)) (by rfl)) fun σ H Q ⟨μ, x⟩ => ?_
    refine ⟨μ, (TMa.bind (TMa.tst x)).imp fun v H1 ⟨d, μ1, p, k, r, h1⟩ => ?_⟩
    obtain ⟨c, e, h2⟩ := h1.ofb
    exact ⟨c, t, key r e, rfl, by have q := h2.ret (.bl (xor true (decide (c = t)))) H1 Same.rfl' (.bl _); rwa [Bool.true_xor] at q⟩
/-- a test's answer, then on -/
theorem TMa.tstb {β B : Type} {RB' : List Addr → Hp → B → β → Prop} {μ : List Addr} {σ : L2.St} {H : Hp} {Q : B → Hp → Prop} {m : M Bool} {f : Bool → M β} (h : TMa G ex μ0 H0 W RB' μ (m.bind f) σ H Q) :
    TMa G ex μ0 H0 W RB μ m σ H fun k H1 => ∃ μ1, μ <+: μ1 ∧ Keep H H1 ∧ TMa G ex μ0 H0 W RB' μ1 (f k) σ H1 Q :=
  (TMa.bind (RA := RB) h).imp fun v H1 ⟨d, μ1, p, k, r, h1⟩ => by
    have r : v = d := r
    subst r
    exact ⟨μ1, p, k, h1⟩
/-- m as a value is the test's answer -/
theorem s_and {x y : Expr} {r : List Expr} (ha : SE G ex μ0 H0 W X x ma) (hb : SE G ex μ0 H0 W X (.BoolOp .And (y :: r) pos) mb) : SE G ex μ0 H0 W X (.BoolOp .And (x :: y :: r) pos) ((tst ma).bind fun t => if t then mb else M.pure (.bl false)) := by
  refine PE.imp (pe_and ha hb) fun σ H Q ⟨μ, h⟩ => ?_
  refine ⟨μ, (TMa.tst (TMa.tstb h)).imp fun v H1 ⟨k, e, μ1, p, kk, h1⟩ => ⟨k, e, ?_⟩⟩
  cases k with
  | true => rw [if_pos rfl] at h1 ⊢; exact ⟨μ1, h1⟩
  | false => rw [if_neg (by decide)] at h1 ⊢; exact h1.ret _ _ Same.rfl' (.bl _)
theorem s_or {x y : Expr} {r : List Expr} (ha : SE G ex μ0 H0 W X x ma) (hb : SE G ex μ0 H0 W X (.BoolOp .Or (y :: r) pos) mb) : SE G ex μ0 H0 W X (.BoolOp .Or (x :: y :: r) pos) ((tst ma).bind fun t => if t then M.pure (.bl true) else mb) := by
  refine PE.imp (pe_or ha hb) fun σ H Q ⟨μ, h⟩ => ?_
  refine ⟨μ, (TMa.tst (TMa.tstb h)).imp fun v H1 ⟨k, e, μ1, p, kk, h1⟩ => ⟨k, e, ?_⟩⟩
  cases k with
  | true => rw [if_pos rfl] at h1 ⊢; exact h1.ret _ _ Same.rfl' (.bl _)
  | false => rw [if_neg (by decide)] at h1 ⊢; exact ⟨μ1, h1⟩
theorem s_not (ha : SE G ex μ0 H0 W X a ma) : SE G ex μ0 H0 W X (.UnaryOp .Not a pos) ((tst ma).bind fun t => M.pure (.bl (!t))) := by
  refine PE.imp (pe_not ha) fun σ H Q ⟨μ, h⟩ => ?_
  refine ⟨μ, (TMa.tst (TMa.tstb h)).imp fun v H1 ⟨k, e, μ1, p, kk, h1⟩ => ⟨k, e, ?_⟩⟩
  exact h1.ret _ _ Same.rfl' (.bl _)
theorem s_ife (hc : ST G ex μ0 H0 W X c (tst mc)) (ha : SE G ex μ0 H0 W X a ma) (hb : SE G ex μ0 H0 W X b mb) : SE G ex μ0 H0 W X (.IfExp c a b pos) ((tst mc).bind fun t => if t then ma else mb) := by
  refine PE.imp (pe_ifExp hc ha hb) fun σ H Q ⟨μ, h⟩ => ?_
  refine ⟨μ, (TMa.tstb h).imp fun k H1 ⟨μ1, p, kk, h1⟩ => ?_⟩
  cases k with
  | true => rw [if_pos rfl] at h1 ⊢; exact ⟨μ1, h1⟩
  | false => rw [if_neg (by decide)] at h1 ⊢; exact ⟨μ1, h1⟩
/-- tests of and, or: the chain -/
theorem w_one {op : BoolOp} {y : Expr} (h : ST G ex μ0 H0 W X y mt) : PW X (.BoolOp op [y] pos) (TM G ex μ0 H0 W RB mt) := by
  cases op with
  | And => exact pw_and1 h
  | Or => exact pw_or1 h
theorem w_and {x y : Expr} {r : List Expr} {t u : M Bool} (ha : ST G ex μ0 H0 W X x t) (hb : PW X (.BoolOp .And (y :: r) pos) (TM G ex μ0 H0 W RB u)) : PW X (.BoolOp .And (x :: y :: r) pos) (TM G ex μ0 H0 W RB (t.bind fun k => if k then u else M.pure false)) := by
  refine ⟨fun wh pins s σ H Q I ⟨μ, h⟩ => (pw_and ha hb).run wh pins s σ H Q I ?_⟩
  refine ⟨μ, (TMa.tstb h).imp fun k H1 ⟨μ1, p, kk, h1⟩ => ?_⟩
  cases k with
  | true => rw [if_pos rfl] at h1 ⊢; exact ⟨μ1, h1⟩
  | false => rw [if_neg (by decide)] at h1 ⊢; exact h1.ret _ _ Same.rfl' rfl
theorem w_or {x y : Expr} {r : List Expr} {t u : M Bool} (ha : ST G ex μ0 H0 W X x t) (hb : PW X (.BoolOp .Or (y :: r) pos) (TM G ex μ0 H0 W RB u)) : PW X (.BoolOp .Or (x :: y :: r) pos) (TM G ex μ0 H0 W RB (t.bind fun k => if k then M.pure true else u)) := by
  refine ⟨fun wh pins s σ H Q I ⟨μ, h⟩ => (pw_or ha hb).run wh pins s σ H Q I ?_⟩
  refine ⟨μ, (TMa.tstb h).imp fun k H1 ⟨μ1, p, kk, h1⟩ => ?_⟩
  cases k with
  | true => rw [if_pos rfl] at h1 ⊢; exact h1.ret _ _ Same.rfl' rfl
  | false => rw [if_neg (by decide)] at h1 ⊢; exact ⟨μ1, h1⟩
theorem t_not {t : M Bool} (ha : ST G ex μ0 H0 W X a t) : ST G ex μ0 H0 W X (.UnaryOp .Not a pos) (t.bind fun k => M.pure (!k)) := by
  refine PT.imp (pt_not ha) fun σ H Q ⟨μ, h⟩ => ?_
  exact ⟨μ, (TMa.tstb h).imp fun k H1 ⟨μ1, p, kk, h1⟩ => h1.ret _ _ Same.rfl' rfl⟩
/-- the test of a value that is made of tests -/
theorem tst_and (m : M Bool) (u : M D) : tst (m.bind fun t => if t then u else M.pure (.bl false)) = m.bind fun k => if k then tst u else M.pure false := by
  funext ρ s
  unfold tst M.bind
  cases m ρ s with
  | ok k ρ1 s1 => cases k <;> rfl
  | ex c ρ1 s1 => rfl
  | bad => rfl
theorem tst_or (m : M Bool) (u : M D) : tst (m.bind fun t => if t then M.pure (.bl true) else u) = m.bind fun k => if k then M.pure true else tst u := by
  funext ρ s
  unfold tst M.bind
  cases m ρ s with
  | ok k ρ1 s1 => cases k <;> rfl
  | ex c ρ1 s1 => rfl
  | bad => rfl
theorem tst_not (m : M Bool) : tst (m.bind fun t => M.pure (.bl (!t))) = m.bind fun k => M.pure (!k) := by
  funext ρ s
  unfold tst M.bind
  cases m ρ s with
  | ok k ρ1 s1 => rfl
  | ex c ρ1 s1 => rfl
  | bad => rfl

theorem plainIx {e : Expr} (h : notSlice e = true) : PlainIx e := fun o i => by cases e <;> first | rfl | (simp [notSlice] at h)
theorem s_ix (hK : X.K = G.K) (ha : SE G ex μ0 H0 W X a ma) (hb : SE G ex μ0 H0 W X b mb) (hn : notSlice b = true) : SE G ex μ0 H0 W X (.Subscript a b pos) (ma.bind fun x => mb.bind fun y => M.of (ixD x y)) := by
  refine PE.imp (pe_ix (ix_ok hK) ha hb (plainIx hn)) fun σ H Q ⟨μ, x⟩ => ?_
  refine ⟨μ, (TMa.bind x).imp fun v H1 ⟨d, μ1, p, k, r, h1⟩ => ⟨μ1, (TMa.bind h1).imp fun w H2 ⟨e, μ2, p2, k2, r2, h2⟩ => ?_⟩⟩
  obtain ⟨z, e1, q⟩ := h2.of
  exact ⟨μ2, d, e, z, Rel.mono p2 k2 _ _ r, r2, e1, q⟩
end
end Pv
end
section
set_option Elab.async false
set_option linter.all false
set_option maxRecDepth 100000
set_option maxHeartbeats 4000000
namespace Pv
open PySem PySem.Spec PyProof.Rows L2

section
variable {X : Cx}
theorem PE.fz {e : Expr} {t : TE} (h : PE X e t) : PE X e (fun σ H Q => t σ H fun v H1 => Q v H1 ∨ ∃ p vs, v = .ref p ∧ H1 p = some (.lst vs) ∧ ∀ o, Q (.ref p) (upd H1 p (.frz o (.lst vs)))) := by
  refine ⟨fun pins s σ H Q I x => thn (h.run pins s σ H _ I x) fun u s' ⟨v, H1, I1, r1, q⟩ => ?_⟩
  rcases q with q | ⟨p, vs, rfl, h1, h2⟩
  · exact ⟨v, H1, I1, r1, q⟩
  · obtain ⟨o, J⟩ := Inv.freeze I1 h1
    exact ⟨.ref p, _, J, r1, h2 o⟩
theorem starAny {pos : Pos} {env : Env} : ∀ {es : List Expr}, es.all notStar = true → (backTo pos (starEach es env)).any (·.1) = false
  | [], _ => rfl
  | e :: es, h => by
    rw [List.all_cons, Bool.and_eq_true] at h
    rw [starEach_cons h.1]
    exact starAny (es := es) h.2
theorem pe_callS0 {CX : CXT} {k : Nat} {f : Addr} {fd : FuncData} {ps : List Str} {sp : Sp} {E : L2.St → XK} {x : Str} {p pos : Pos} (F : FnOk X.prog X.w X.K X.mg X.base CX k f fd ps sp) (hr : Room k X.A) (hg : Gl X x) (hm : X.mg x = some (.ref f)) (hk : PySem.W.keepIn X.K (.ref f) = true) (hb : Binds X.K fd ps []) (hx : ∀ σ, PassesAt CX X σ (E σ))
    (hdb : (x == ("__debug__" : Str)) = false) : PE X (.Call (.Name x p) [] [] pos) (tCallS sp E tNil) :=
  ⟨fun pins s σ H Q I h => wpAny_Call_Name_kw (ld_glob I hg hm (PySem.W.callWith_K0 I.kIn hk (run_fnS (us := []) F hr hb (hx σ) I .nil h)) hdb)⟩
end

section
variable {G : Wd} {ex : Nat → Value} {μ0 : List Addr} {H0 : Hp} {W : WX} {X : Cx} {a b c : Expr} {ma mb mc : M D} {mt : M Bool} {pos : Pos}
/-- a new list that is still our own -/
def TF (G : Wd) (ex : Nat → Value) (μ0 : List Addr) (H0 : Hp) (W : WX) (m : M D) : TE := fun σ H Q => ∃ μ ρ S, Jn G μ0 H0 μ σ H ρ S ∧ (m ρ S).post
  (fun d ρ' S' => ∃ ds, d = .lst ds ∧ ∀ p vs H' μ', μ <+: μ' → Keep H H' → Jn G μ0 H0 μ' σ H' ρ' S' → H' p = some (.lst vs) → RelL G μ' H' vs ds → Frs μ0 H0 μ' σ ρ' p → Q (.ref p) H')
  (fun c ρ' S' => ∀ H' μ', μ <+: μ' → Keep H H' → Jn G μ0 H0 μ' σ H' ρ' S' → W (ex c) none σ H')
/-- m hands out lists alone -/
def Lists (m : M D) : Prop := ∀ ρ s d ρ' s', m ρ s = .ok d ρ' s' → ∃ ds, d = .lst ds
theorem s_ofF {e : Expr} {m : M D} (h : PE X e (TF G ex μ0 H0 W m)) (hl : Lists m) : SE G ex μ0 H0 W X e m := by
  refine PE.imp (PE.fz h) fun σ H Q ⟨μ, ρ, S, J, x⟩ => ⟨μ, ρ, S, J, ?_⟩
  cases q : m ρ S with
  | ok d ρ1 S1 =>
    rw [q] at x
    obtain ⟨ds, rfl⟩ := hl _ _ _ _ _ q
    refine ⟨ds, rfl, fun p vs H' μ' p1 k1 J1 h1 r1 f1 => .inr ⟨p, vs, rfl, h1, fun o => ?_⟩⟩
    have c : Calm H' (upd H' p (.frz o (.lst vs))) := Calm.upd h1
    exact x (.ref p) _ μ' p1 (k1.trans c.keep) (J1.chg h1 f1) (.lst ⟨o, upd_same⟩ (RelL.mono (List.prefix_refl _) c.keep _ _ r1))
  | ex c ρ1 S1 => rw [q] at x; exact x
  | bad => rw [q] at x; exact x
/-- laid: a list of the values -/
theorem TF.laid {μ : List Addr} {σ : L2.St} {H : Hp} {Q : VK} {ρ : Ro} {S : So} {vs : List V} {ds : List D} {p : Addr} (J : Jn G μ0 H0 μ σ H ρ S) (r : RelL G μ H vs ds) (hp : H p = none)
    (q : ∀ p vs H' μ', μ <+: μ' → Keep H H' → Jn G μ0 H0 μ' σ H' ρ S → H' p = some (.lst vs) → RelL G μ' H' vs ds → Frs μ0 H0 μ' σ ρ p → Q (.ref p) H') : Q (.ref p) (upd H p (.lst vs)) := by
  have s := Same.upd (o := .lst vs) hp
  have f := J.frs hp
  exact q p vs _ μ (List.prefix_refl _) s.keep (J.same s) upd_same (RelL.mono (List.prefix_refl _) s.keep _ _ r) f
theorem s_lstF {es : List Expr} {ms : M (List D)} (hs : SEs G ex μ0 H0 W X es ms) : PE X (.List es pos) (TF G ex μ0 H0 W (ms.bind fun ds => if ds.length ≤ lim then M.pure (.lst ds) else fun _ _ => .bad)) := by
  refine PE.imp (pe_lst hs) fun σ H Q ⟨μ, ρ, S, J, x⟩ => ⟨μ, ρ, S, J, (post_bind x).imp (fun ds ρ1 S1 h1 vs H1 μ1 p1 k1 J1 r1 => ?_) fun _ _ _ z => z⟩
  split at h1
  · rename_i hl
    obtain ⟨es', e, q⟩ := h1
    cases e
    refine ⟨by rw [r1.length]; exact hl, fun p hp => TF.laid J1 r1 hp fun p vs H' μ' p2 k2 J2 e2 r2 f2 => q p vs H' μ' (p1.trans p2) (k1.trans k2) J2 e2 r2 f2⟩
  · exact h1.elim
theorem lists_lst {ms : M (List D)} : Lists (ms.bind fun ds => if ds.length ≤ lim then M.pure (.lst ds) else fun _ _ => .bad) := fun ρ s d ρ' s' h => by
  unfold M.bind at h
  cases q : ms ρ s with
  | ok ds ρ1 s1 =>
    rw [q] at h
    dsimp only at h
    split at h
    · cases h; exact ⟨_, rfl⟩
    · cases h
  | ex c ρ1 s1 => rw [q] at h; cases h
  | bad => rw [q] at h; cases h
theorem s_tup {es : List Expr} {ms : M (List D)} {k : Nat} (hs : SEs G ex μ0 H0 W X es ms) : SE G ex μ0 H0 W X (.Tuple es k pos) (ms.bind fun ds => if ds.length ≤ lim then M.pure (.tup ds) else fun _ _ => .bad) := by
  refine PE.imp (pe_tup hs) fun σ H Q ⟨μ, x⟩ => ⟨μ, (TMa.bind x).imp fun vs H1 ⟨ds, μ1, p1, k1, r1, h1⟩ => ?_⟩
  split at h1
  · rename_i hl
    exact ⟨by rw [r1.length]; exact hl, fun p hp => h1.ret _ _ (Same.upd hp) (relTup hp r1)⟩
  · exact h1.bad.elim
/-- the left list, then the right one: a new list -/
theorem s_addF (hK : X.K = G.K) (ha : SE G ex μ0 H0 W X a ma) (hb : SE G ex μ0 H0 W X b mb) : PE X (.BinOp a .Add b pos) (TF G ex μ0 H0 W (ma.bind fun x => mb.bind fun y => M.of (binD .add x y))) := by
  refine ⟨fun pins s σ H Q I ⟨μ, ρ, S, J, h⟩ => wpAny_BinOp (bin ha hb (R := fun x y H2 => ∃ μ2 ρ2 S2 xs ys p q vs ws, Jn G μ0 H0 μ2 σ H2 ρ2 S2 ∧ x = .ref p ∧ y = .ref q ∧ Fz H2 p vs ∧ Fz H2 q ws ∧ RelL G μ2 H2 vs xs ∧ RelL G μ2 H2 ws ys ∧ xs.length + ys.length ≤ lim ∧
      ∀ p vs H' μ', μ2 <+: μ' → Keep H2 H' → Jn G μ0 H0 μ' σ H' ρ2 S2 → H' p = some (.lst vs) → RelL G μ' H' vs (xs ++ ys) → Frs μ0 H0 μ' σ ρ2 p → Q (.ref p) H') I ?_ fun v u s2 x y H2 I2 rx ry hr => ?_)⟩
  · refine ⟨μ, ρ, S, J, (post_bind h).imp (fun d ρ1 S1 h1 v H1 μ1 p1 k1 J1 r1 => ⟨μ1, ρ1, S1, J1, (post_bind h1).imp (fun e ρ2 S2 h2 w H2 μ2 p2 k2 J2 r2 => ?_) fun c ρ2 S2 z H2 μ2 p2 k2 J2 => z H2 μ2 (p1.trans p2) (k1.trans k2) J2⟩) fun _ _ _ z => z⟩
    obtain ⟨z, e1, ds, rfl, q⟩ := post_of h2
    have hd : ∃ xs ys, d = .lst xs ∧ e = .lst ys ∧ xs.length + ys.length ≤ lim ∧ ds = xs ++ ys := by
      cases d <;> cases e <;> simp only [binD] at e1 <;> first | (cases e1; done) | (split at e1 <;> first | (cases e1; done) | skip)
      rename_i xs ys hl
      cases e1
      exact ⟨xs, ys, rfl, rfl, hl, rfl⟩
    obtain ⟨xs, ys, rfl, rfl, hl, rfl⟩ := hd
    obtain ⟨p, vs, rfl, g1, g2⟩ := rel_lst (Rel.mono p2 k2 _ _ r1)
    obtain ⟨p', ws, rfl, g3, g4⟩ := rel_lst r2
    exact ⟨μ2, ρ2, S2, xs, ys, p, p', vs, ws, J2, rfl, rfl, g1, g3, g2, g4, hl, fun p vs H' μ' p3 k3 J3 e3 r3 f3 => q p vs H' μ' ((p1.trans p2).trans p3) ((k1.trans k2).trans k3) J3 e3 r3 f3⟩
  · obtain ⟨μ2, ρ2, S2, xs, ys, p, q, vs, ws, J2, rfl, rfl, g1, g2, g3, g4, hl, qq⟩ := hr
    cases rx; cases ry
    exact cat_fz I2 g1 g2 (by rw [g3.length, g4.length]; exact hl) fun p hp => TF.laid J2 (g3.append g4) hp qq
/-- items of a list of our own -/
theorem s_ixo (hK : X.K = G.K) {n : Nat} {x : Str} {px : Pos} (h1 : X.N[n]? = some x) (h2 : Vis X.env.scope x) (h3 : (x == ("__debug__" : Str)) = false) (h4 : (x == ("__classdict__" : Str)) = false) (hb : SE G ex μ0 H0 W X b mb) (hn : notSlice b = true) :
    SE G ex μ0 H0 W X (.Subscript (.Name x px) b pos) ((getOw n).bind fun _ => mb.bind fun y => (getOw n).bind fun xs => M.of (ixD (.lst xs) y)) := by
  refine PE.imp (pe_ix ix_list (pe_var h1 h2 h3 h4) hb (plainIx hn)) fun σ H Q ⟨μ, h⟩ => ?_
  obtain ⟨ds, p, vs, g1, g2, g3, h⟩ := h.ow
  refine ⟨_, g1, μ, (TMa.bind h).imp fun w H2 ⟨e, μ2, p2, k2, r2, h2⟩ => ?_⟩
  obtain ⟨xs, p', ws, g4, g5, g6, h3⟩ := h2.ow
  rw [g1] at g4
  cases g4
  obtain ⟨z, e1, q⟩ := h3.of
  cases e with
  | int i =>
    obtain rfl := rel_int r2
    obtain ⟨y, e2, r3⟩ := g6.atI e1
    exact ⟨p, ws, i, y, rfl, rfl, .of g5, e2, q _ _ Same.rfl' r3⟩
  | _ => simp [ixD] at e1
theorem s_leno (hK : X.K = G.K) {n : Nat} {x : Str} {px pf : Pos} (hg : Gl X "len") (hm : X.mg "len" = none) (h1 : X.N[n]? = some x) (h2 : Vis X.env.scope x) (h3 : (x == ("__debug__" : Str)) = false) (h4 : (x == ("__classdict__" : Str)) = false) :
    SE G ex μ0 H0 W X (.Call (.Name "len" pf) [.Name x px] [] pos) ((getOw n).bind fun xs => M.pure (.int xs.length)) := by
  refine PE.imp (pe_callB call_len hg hm PySem.boot_len (pa_cons (pe_var h1 h2 h3 h4) pa_nil)) fun σ H Q ⟨μ, h⟩ => ?_
  obtain ⟨ds, p, vs, g1, g2, g3, h⟩ := h.ow
  exact ⟨_, g1, _, _, rfl, .inl ⟨vs, .of g2, rfl⟩, h.ret _ _ Same.rfl' (by rw [g3.length]; exact .int _)⟩
theorem s_tupo (hK : X.K = G.K) {n : Nat} {x : Str} {px pf : Pos} (hg : Gl X "tuple") (hm : X.mg "tuple" = none) (h1 : X.N[n]? = some x) (h2 : Vis X.env.scope x) (h3 : (x == ("__debug__" : Str)) = false) (h4 : (x == ("__classdict__" : Str)) = false) :
    SE G ex μ0 H0 W X (.Call (.Name "tuple" pf) [.Name x px] [] pos) ((getOw n).bind fun xs => M.pure (.tup xs)) := by
  refine PE.imp (pe_callTy call_tuple_of hg hm (by decide +kernel) (pa_cons (pe_var h1 h2 h3 h4) pa_nil)) fun σ H Q ⟨μ, h⟩ => ?_
  obtain ⟨ds, p, vs, g1, g2, g3, h⟩ := h.ow
  exact ⟨_, g1, p, vs, rfl, .inl ⟨.of g2, fun l hl => h.ret _ _ (Same.upd hl) (relTup hl g3)⟩⟩
theorem s_fz {i : Nat} {x : Str} (h1 : X.N[i]? = some x) (h2 : Vis X.env.scope x) (h3 : (x == ("__debug__" : Str)) = false) (h4 : (x == ("__classdict__" : Str)) = false) : SE G ex μ0 H0 W X (.Name x pos) (frzSl i) := by
  refine PE.imp (PE.fz (pe_var h1 h2 h3 h4)) fun σ H Q ⟨μ, ρ, S, J, h⟩ => ?_
  unfold frzSl at h
  split at h
  · rename_i ds e
    obtain ⟨p, vs, g1, g2, g3, _, _, f, J1⟩ := J.own e
    refine ⟨_, g1, .inr ⟨p, vs, rfl, g2, fun o => ?_⟩⟩
    have c : Calm H (upd H p (.frz o (.lst vs))) := Calm.upd g2
    have hi : i < ρ.length := (List.getElem?_eq_some_iff.mp e).1
    have r : Rel G μ (upd H p (.frz o (.lst vs))) (.ref p) (.lst ds) := .lst ⟨o, upd_same⟩ (RelL.mono (List.prefix_refl _) c.keep _ _ g3)
    have J2 := (J1.chg (o := .frz o (.lst vs)) g2 f).setSh (i := i) r (by rw [List.length_set]; exact hi)
    rw [List.set_set] at J2
    have es : σ.set i (some (.ref p)) = σ := by
      refine List.ext_getElem? fun j => ?_
      by_cases hj : j = i
      · subst hj
        rw [List.getElem?_set_self (List.getElem?_eq_some_iff.mp g1).1, g1]
      · rw [List.getElem?_set_ne (Ne.symm hj)]
    rw [es] at J2
    exact h _ _ μ (List.prefix_refl _) c.keep J2 r
  · exact h.elim
end
end Pv
end
section
set_option Elab.async false
set_option linter.all false
set_option maxRecDepth 100000
set_option maxHeartbeats 4000000
namespace Pv
open PySem PySem.Spec PyProof.Rows L2

section
variable {G : Wd} {μ0 μ : List Addr} {H0 H H' : Hp} {σ : L2.St} {ρ : Ro} {S : So}
/-- a changing list is changed -/
theorem Jn.cell (J : Jn G μ0 H0 μ σ H ρ S) {n : Nat} {a : Addr} {vs vs' : List V} {ds ds' : List D} (hn : μ[n]? = some a) (hs : S[n]? = some (.lst ds)) (ha : H a = some (.lst vs)) (r : RelL G μ H vs' ds') :
    Jn G μ0 H0 μ σ (upd H a (.lst vs')) ρ (S.set n (.lst ds')) := by
  have c : Calm H (upd H a (.lst vs')) := Calm.upd ha
  have k := c.keep
  have am : a ∈ μ := List.mem_of_getElem? hn
  refine ⟨J.len, fun i d e => ?_, fun i es e => ?_, ⟨by rw [List.length_set]; exact J.cells.len, J.cells.nd, fun m b x h1 h2 => ?_⟩, c.tabs J.tabs, J.pre, J.new, ⟨fun b u h1 h2 h3 => ?_, fun b ps h => ?_⟩⟩
  · obtain ⟨v, h1, h2⟩ := J.sh i d e
    exact ⟨v, h1, Rel.mono (List.prefix_refl _) k _ _ h2⟩
  · obtain ⟨q, ws, h1, h2, h3, h4, h5⟩ := J.ow i es e
    have : q ≠ a := fun z => h4 (z ▸ am)
    exact ⟨q, ws, h1, by rw [upd_ne this]; exact h2, RelL.mono (List.prefix_refl _) k _ _ h3, h4, h5⟩
  · by_cases hm : m = n
    · subst hm
      have hl : m < S.length := (List.getElem?_eq_some_iff.mp hs).1
      rw [List.getElem?_set_self hl] at h2
      rw [hn] at h1
      cases h1; cases h2
      exact ⟨vs', upd_same, RelL.mono (List.prefix_refl _) k _ _ r⟩
    · rw [List.getElem?_set_ne (Ne.symm hm)] at h2
      refine (J.cells.at_ m b x h1 h2).calm k (upd_ne fun z => hm ?_)
      subst z
      have l1 := (List.getElem?_eq_some_iff.mp h1).1
      have l2 := (List.getElem?_eq_some_iff.mp hn).1
      exact (List.getElem_inj J.cells.nd).mp ((List.getElem?_eq_some_iff.mp h1).2.trans (List.getElem?_eq_some_iff.mp hn).2.symm)
  · have : b ≠ a := fun z => by
      subst z
      have := J.new b am h2
      rw [h1] at this; cases this
    rw [upd_ne this]
    exact J.frm.stay b u h1 h2 h3
  · obtain ⟨m, e⟩ := J.frm.tbl b ps h
    exact ⟨m, by rw [upd_ne (fun z => by subst z; rw [ha] at e; cases e)]; exact e⟩
/-- a list of our own becomes a changing object -/
theorem Jn.newc (J : Jn G μ0 H0 μ σ H ρ S) {p : Addr} {vs : List V} {ds : List D} (hp : H p = some (.lst vs)) (r : RelL G μ H vs ds) (f : Frs μ0 H0 μ σ ρ p) : Jn G μ0 H0 (μ ++ [p]) σ H ρ (S ++ [.lst ds]) ∧ Rel G (μ ++ [p]) H (.ref p) (.ob S.length) := by
  have pre : μ <+: μ ++ [p] := List.prefix_append _ _
  have k := Keep.refl H
  refine ⟨⟨J.len, fun i d e => ?_, fun i es e => ?_, ⟨by rw [List.length_append, List.length_append, J.cells.len]; rfl, ?_, fun m b x h1 h2 => ?_⟩, J.tabs, J.pre.trans pre, fun a h1 h2 => ?_, J.frm⟩, .ob ?_⟩
  · obtain ⟨v, h1, h2⟩ := J.sh i d e
    exact ⟨v, h1, Rel.mono pre k _ _ h2⟩
  · obtain ⟨q, ws, h1, h2, h3, h4, h5⟩ := J.ow i es e
    refine ⟨q, ws, h1, h2, RelL.mono pre k _ _ h3, fun z => ?_, h5⟩
    rcases List.mem_append.mp z with z | z
    · exact h4 z
    · have : q = p := by simpa using z
      exact f.ow i es e (this ▸ h1)
  · rw [List.nodup_append]
    refine ⟨J.cells.nd, by simp, fun a h1 b h2 z => f.mu ?_⟩
    have e : b = p := by simpa using h2
    rw [← e, ← z]
    exact h1
  · have hl := J.cells.len
    by_cases hm : m < μ.length
    · rw [List.getElem?_append_left hm] at h1
      rw [List.getElem?_append_left (by omega)] at h2
      have y := J.cells.at_ m b x h1 h2
      cases x with
      | lst es => obtain ⟨ws, g1, g2⟩ := y; exact ⟨ws, g1, RelL.mono pre k _ _ g2⟩
      | ins c fs => obtain ⟨dx, ws, g1, g2⟩ := y; exact ⟨dx, ws, g1, RelL.mono pre k _ _ g2⟩
    · rw [List.getElem?_append_right (by omega)] at h1
      rw [List.getElem?_append_right (by omega)] at h2
      have e1 : m - μ.length = 0 := by
        have := (List.getElem?_eq_some_iff.mp h1).1
        simp at this; omega
      rw [e1] at h1
      rw [show m - S.length = 0 by omega] at h2
      simp at h1 h2
      subst h1; subst h2
      exact ⟨vs, hp, RelL.mono pre k _ _ r⟩
  · rcases List.mem_append.mp h1 with z | z
    · exact J.new a z h2
    · have : a = p := by simpa using z
      rw [this]; exact f.h0
  · rw [List.getElem?_append_right (by rw [J.cells.len]; exact Nat.le_refl _), J.cells.len]
    simp
end

section
variable {G : Wd} {ex : Nat → Value} {μ0 : List Addr} {H0 : Hp} {W : WX} {X : Cx} {a b c : Expr} {ma mb mc : M D} {mt : M Bool} {pos : Pos}
variable {Γ : Nm} {F : Nat → List D → So → FR} {gl : Nat → Option D} {lv : Nat} {N : List Str} {sc : Scope} {top : Bool}
/-- the arguments' values, then the call; R: what it hands back -/
theorem call_red {n : Nat} {m : M (List D)} {f : List D → So → FR} {σ : L2.St} {H : Hp} {Q : VK} {μ : List Addr} {ρ : Ro} {S : So} (hlen : ∀ (ds : List D) (s : So), ds.length ≠ n → f ds s = .bad) (J : Jn G μ0 H0 μ σ H ρ S)
    (h : (m ρ S).post (fun ds ρ1 S1 => match f ds S1 with
      | .ok d S2 => ∀ v H' μ', μ <+: μ' → Keep H H' → Jn G μ0 H0 μ' σ H' ρ1 S2 → Rel G μ' H' v d → Q v H'
      | .own xs S2 => ∀ p vs H' μ', μ <+: μ' → Keep H H' → Jn G μ0 H0 μ' σ H' ρ1 S2 → H' p = some (.lst vs) → RelL G μ' H' vs xs → Frs μ0 H0 μ' σ ρ1 p → Q (.ref p) H'
      | .ex c S2 => ∀ H' μ', μ <+: μ' → Keep H H' → Jn G μ0 H0 μ' σ H' ρ1 S2 → W (ex c) none σ H'
      | .bad => False) (fun c ρ' S' => ∀ H' μ', μ <+: μ' → Keep H H' → Jn G μ0 H0 μ' σ H' ρ' S' → W (ex c) none σ H')) :
    TM G ex μ0 H0 W (RelL G) m σ H (fun vs H1 => lift G ex f n vs H1 Q (WE W σ)) := by
  refine ⟨μ, ρ, S, J, h.imp (fun ds ρ1 S1 h1 vs H1 μ1 p1 k1 J1 r1 => ?_) fun _ _ _ z => z⟩
  refine ⟨μ1, ds, S1, ?_, r1, J1.cells, J1.tabs, ?_⟩
  · rw [r1.length]
    refine Classical.byContradiction fun z => ?_
    rw [hlen ds S1 z] at h1
    exact h1
  · cases q : f ds S1 with
    | ok d S2 =>
      rw [q] at h1
      exact fun v H' μ' R r => h1 v H' μ' (p1.trans R.pre) (k1.trans (R.frm.keep J1.cells)) (J1.ran R) r
    | own xs S2 =>
      rw [q] at h1
      refine fun p ws H' μ' R hp r h0 hm => h1 p ws H' μ' (p1.trans R.pre) (k1.trans (R.frm.keep J1.cells)) (J1.ran R) hp r ?_
      have f0 := J1.frs h0
      exact ⟨hm, f0.h0, f0.ow⟩
    | ex c S2 =>
      rw [q] at h1
      exact fun H' μ' R => h1 H' μ' (p1.trans R.pre) (k1.trans (R.frm.keep J1.cells)) (J1.ran R)
    | bad => rw [q] at h1; exact h1
/-- .. as a reading of the call -/
theorem pe_fn (cx : Ctxt G ex Γ F gl lv X N sc top) (tk : L2N.Takes X W) {f : Nat} {x : Str} {px : Pos} {es : List Expr} {ms : M (List D)} (hf : Γ.fn[f]? = some x) (hg : Gl X x) (hd : (x == ("__debug__" : Str)) = false) (hs : SEs G ex μ0 H0 W X es ms) (hst : es.all notStar = true) (h0 : es = [] → ms = M.pure []) :
    ∃ n, (∀ (ds : List D) (s : So), ds.length ≠ n → F f ds s = .bad) ∧ PE X (.Call (.Name x px) es [] pos) (fun σ H Q => TM G ex μ0 H0 W (RelL G) ms σ H (fun vs H1 => lift G ex (F f) n vs H1 Q (WE W σ))) := by
  obtain ⟨a, fd, ps, hm, hk, FO, hb, hl⟩ := cx.fns f x hf
  refine ⟨ps.length, hl, ?_⟩
  cases es with
  | nil =>
    refine ⟨fun pins s σ H Q I h => (pe_callS0 FO cx.room hg hm hk hb (fun σ => L2N.passAt tk σ) hd).run pins s σ H Q I ?_⟩
    rw [h0 rfl] at h
    obtain ⟨μ, h⟩ := h
    exact h.ret _ _ Same.rfl' .nil
  | cons e es =>
    rw [List.all_cons, Bool.and_eq_true] at hst
    exact pe_callS FO cx.room hg hm hk hb (fun σ => L2N.passAt tk σ) hs hd (starEach_cons hst.1) (starAny hst.2)

theorem s_call (cx : Ctxt G ex Γ F gl lv X N sc top) (tk : L2N.Takes X W) {f : Nat} {x : Str} {px : Pos} {es : List Expr} {ms : M (List D)} (hf : Γ.fn[f]? = some x) (hg : Gl X x) (hd : (x == ("__debug__" : Str)) = false) (hs : SEs G ex μ0 H0 W X es ms) (hst : es.all notStar = true) (h0 : es = [] → ms = M.pure []) :
    SE G ex μ0 H0 W X (.Call (.Name x px) es [] pos) (ms.bind fun ds => callM (F f) ds) := by
  obtain ⟨n, hl, h⟩ := pe_fn (pos := pos) (px := px) cx tk hf hg hd hs hst h0
  refine PE.imp (PE.fz h) fun σ H Q ⟨μ, ρ, S, J, x⟩ => call_red hl J ((post_bind x).imp (fun ds ρ1 S1 h1 => ?_) fun _ _ _ z => z)
  unfold callM at h1
  cases q : F f ds S1 with
  | ok d S2 => rw [q] at h1; exact fun v H' μ' p1 k1 J1 r1 => .inl (h1 v H' μ' p1 k1 J1 r1)
  | own xs S2 =>
    rw [q] at h1
    refine fun p vs H' μ' p1 k1 J1 hp r1 f1 => .inr ⟨p, vs, rfl, hp, fun o => ?_⟩
    have c : Calm H' (upd H' p (.frz o (.lst vs))) := Calm.upd hp
    exact h1 (.ref p) _ μ' p1 (k1.trans c.keep) (J1.chg hp f1) (.lst ⟨o, upd_same⟩ (RelL.mono (List.prefix_refl _) c.keep _ _ r1))
  | ex c S2 => rw [q] at h1; exact fun H' μ' p1 k1 J1 => h1 H' μ' p1 k1 J1
  | bad => rw [q] at h1; exact h1
theorem s_calloF (cx : Ctxt G ex Γ F gl lv X N sc top) (tk : L2N.Takes X W) {f : Nat} {x : Str} {px : Pos} {es : List Expr} {ms : M (List D)} (hf : Γ.fn[f]? = some x) (hg : Gl X x) (hd : (x == ("__debug__" : Str)) = false) (hs : SEs G ex μ0 H0 W X es ms) (hst : es.all notStar = true) (h0 : es = [] → ms = M.pure []) :
    PE X (.Call (.Name x px) es [] pos) (TF G ex μ0 H0 W (ms.bind fun ds => calloM (F f) ds)) := by
  obtain ⟨n, hl, h⟩ := pe_fn (pos := pos) (px := px) cx tk hf hg hd hs hst h0
  refine PE.imp h fun σ H Q ⟨μ, ρ, S, J, x⟩ => call_red hl J ((post_bind x).imp (fun ds ρ1 S1 h1 => ?_) fun _ _ _ z => z)
  unfold calloM at h1
  cases q : F f ds S1 with
  | ok d S2 => rw [q] at h1; exact h1.elim
  | own xs S2 =>
    rw [q] at h1
    obtain ⟨es', e, h1⟩ := h1
    cases e
    exact fun p vs H' μ' p1 k1 J1 hp r1 f1 => h1 p vs H' μ' p1 k1 J1 hp r1 f1
  | ex c S2 => rw [q] at h1; exact fun H' μ' p1 k1 J1 => h1 H' μ' p1 k1 J1
  | bad => rw [q] at h1; exact h1
theorem lists_callo {f : List D → So → FR} {ms : M (List D)} : Lists (ms.bind fun ds => calloM f ds) := fun ρ s d ρ' s' h => by
  unfold M.bind at h
  cases q : ms ρ s with
  | ok ds ρ1 s1 =>
    rw [q] at h
    dsimp only [calloM] at h
    cases q2 : f ds s1 <;> rw [q2] at h <;> cases h
    exact ⟨_, rfl⟩
  | ex c ρ1 s1 => rw [q] at h; cases h
  | bad => rw [q] at h; cases h
/-- a list of our own becomes a changing object -/
theorem s_newc {e : Expr} {m : M D} (h : PE X e (TF G ex μ0 H0 W m)) : SE G ex μ0 H0 W X e (m.bind newM) := by
  refine PE.imp h fun σ H Q ⟨μ, ρ, S, J, x⟩ => ⟨μ, ρ, S, J, (post_bind x).imp (fun d ρ1 S1 h1 => ?_) fun _ _ _ z => z⟩
  cases d with
  | lst ds =>
    refine ⟨ds, rfl, fun p vs H' μ' p1 k1 J1 hp r1 f1 => ?_⟩
    obtain ⟨J2, r2⟩ := J1.newc hp r1 f1
    exact h1 (.ref p) H' _ (p1.trans (List.prefix_append _ _)) k1 J2 r2
  | _ => exact h1.elim
/-- a built-in function -/
theorem s_blt {id : String} {x : Str} {px : Pos} {g : List D → Option D} {e : Expr} {es : List Expr} {ms : M (List D)} (hc : CallR X (.builtin id) (RBl G g)) (hg : Gl X x) (hm : X.mg x = none) (hv : bootBuiltins x = some (.builtin id)) (hn : x ≠ "__name__") (hdb : (x == ("__debug__" : Str)) = false)
    (hs : SEs G ex μ0 H0 W X (e :: es) ms) (hst : (e :: es).all notStar = true) : SE G ex μ0 H0 W X (.Call (.Name x px) (e :: es) [] pos) (ms.bind fun ds => M.of (g ds)) := by
  rw [List.all_cons, Bool.and_eq_true] at hst
  refine PE.imp (pe_callB hc hg hm hv hs hn hdb (starEach_cons hst.1) (starAny hst.2)) fun σ H Q ⟨μ, h⟩ => ⟨μ, (TMa.bind h).imp fun vs H1 ⟨ds, μ1, p1, k1, r1, h1⟩ => ?_⟩
  obtain ⟨z, e, q⟩ := h1.of
  exact ⟨μ1, ds, z, r1, e, q⟩
theorem s_bty {id : String} {x : Str} {px : Pos} {g : List D → Option D} {e : Expr} {es : List Expr} {ms : M (List D)} (hc : CallR X (.type id) (RBl G g)) (hg : Gl X x) (hm : X.mg x = none) (hv : bootBuiltins x = some (.type id)) (hn : x ≠ "__name__") (hdb : (x == ("__debug__" : Str)) = false)
    (hs : SEs G ex μ0 H0 W X (e :: es) ms) (hst : (e :: es).all notStar = true) : SE G ex μ0 H0 W X (.Call (.Name x px) (e :: es) [] pos) (ms.bind fun ds => M.of (g ds)) := by
  rw [List.all_cons, Bool.and_eq_true] at hst
  refine PE.imp (pe_callTy hc hg hm hv hs hn hdb (starEach_cons hst.1) (starAny hst.2)) fun σ H Q ⟨μ, h⟩ => ⟨μ, (TMa.bind h).imp fun vs H1 ⟨ds, μ1, p1, k1, r1, h1⟩ => ?_⟩
  obtain ⟨z, e, q⟩ := h1.of
  exact ⟨μ1, ds, z, r1, e, q⟩
theorem s_isi (hK : X.K = G.K) {t : Ty} {p1 p2 : Pos} (hg : Gl X "isinstance") (hm : X.mg "isinstance" = none) (hg2 : Gl X t.nm) (hm2 : X.mg t.nm = none) (ha : SE G ex μ0 H0 W X a ma) (hst : notStar a = true) :
    SE G ex μ0 H0 W X (.Call (.Name "isinstance" p1) [a, .Name t.nm p2] [] pos) (ma.bind fun x => M.of ((isiD x t).map .bl)) := by
  have hb : PE X (.Name t.nm p2) (tC (.ty t.ty)) := by
    cases t
    · exact pe_bltn (u := .type "int") hg2 hm2 (by decide +kernel) rfl
    · exact pe_bltn (u := .type "bool") hg2 hm2 (by decide +kernel) rfl
    · exact pe_bltn (u := .type "tuple") hg2 hm2 (by decide +kernel) rfl
    · exact pe_bltn (u := .type "str") hg2 hm2 (by decide +kernel) rfl
    · exact pe_bltn (u := .type "list") hg2 hm2 (by decide +kernel) rfl
  refine PE.imp (pe_callB (isi_ok hK t) hg hm (by decide +kernel) (pa_cons ha (pa_cons hb pa_nil (starEach_cons rfl)) (starEach_cons hst)) (by decide) (by decide) (starEach_cons hst) (starAny rfl)) fun σ H Q ⟨μ, h⟩ => ?_
  refine ⟨μ, (TMa.bind h).imp fun v H1 ⟨d, μ1, p, k, r, h1⟩ => ?_⟩
  obtain ⟨z, e, q⟩ := h1.of
  obtain ⟨y, e2, rfl⟩ := Option.map_eq_some_iff.mp e
  exact ⟨μ1, v, d, y, rfl, r, e2, q _ _ Same.rfl' (.bl _)⟩
end
end Pv
end
section
set_option Elab.async false
set_option linter.all false
set_option maxRecDepth 100000
set_option maxHeartbeats 4000000
namespace Pv
open PySem PySem.Spec PyProof.Rows L2

section
variable {G : Wd} {ex : Nat → Value} {μ0 : List Addr} {H0 : Hp} {W : WX} {X : Cx} {a b c : Expr} {ma mb mc : M D} {mt : M Bool} {pos : Pos}
variable {Γ : Nm} {F : Nat → List D → So → FR} {gl : Nat → Option D} {lv : Nat} {N : List Str} {sc : Scope} {top : Bool}
abbrev SO (G : Wd) (ex : Nat → Value) (μ0 : List Addr) (H0 : Hp) (W : WX) (X : Cx) (e : Option Expr) (m : M (Option Int)) : Prop := PO X e (TM G ex μ0 H0 W RO m)
theorem o_none : SO G ex μ0 H0 W X none (M.pure none) := ⟨fun pins s σ H Q I ⟨μ, h⟩ => po_none.run pins s σ H Q I (h.ret _ _ Same.rfl' rfl)⟩
theorem o_some (ha : SE G ex μ0 H0 W X a ma) : SO G ex μ0 H0 W X (some a) (ma.bind fun x => (M.of (asI x)).bind fun i => M.pure (some i)) := by
  refine ⟨fun pins s σ H Q I ⟨μ, h⟩ => (po_some ha).run pins s σ H Q I ⟨μ, (TMa.bind h).imp fun v H1 ⟨d, μ1, p, k, r, h1⟩ => ?_⟩⟩
  obtain ⟨i, e, h2⟩ := h1.ofb
  cases d with
  | int j =>
    simp only [asI, Option.some.injEq] at e
    subst e
    exact ⟨j, rel_int r, h2.ret _ _ Same.rfl' rfl⟩
  | _ => simp [asI] at e
theorem s_sl (hK : X.K = G.K) {lo hi : Option Expr} {ml mh : M (Option Int)} {p2 : Pos} (ha : SE G ex μ0 H0 W X a ma) (hl : SO G ex μ0 H0 W X lo ml) (hh : SO G ex μ0 H0 W X hi mh) :
    SE G ex μ0 H0 W X (.Subscript a (.Slice lo hi none p2) pos) (ma.bind fun x => ml.bind fun l => mh.bind fun h => M.of (slD x l h)) := by
  refine PE.imp (PE.fz (pe_slice (sl_ok hK) ha hl hh)) fun σ H Q ⟨μ, x⟩ => ?_
  refine ⟨μ, (TMa.bind x).imp fun v H1 ⟨d, μ1, p1, k1, r1, h1⟩ => ⟨μ1, (TMa.bind (RA := RO) h1).imp fun l H2 ⟨l', μ2, p2, k2, r2, h2⟩ => ⟨μ2, (TMa.bind (RA := RO) h2).imp fun h H3 ⟨h', μ3, p3, k3, r3, h3⟩ => ?_⟩⟩⟩
  have r2 : l = l' := r2
  have r3 : h = h' := r3
  subst r2; subst r3
  obtain ⟨z, e, q⟩ := h3.of
  have rd := Rel.mono (p2.trans p3) (k2.trans k3) _ _ r1
  refine ⟨μ3, d, z, rd, e, ?_⟩
  cases d with
  | tup xs => exact .inl ⟨xs, rfl, fun v H' s r => .inl (q v H' s r)⟩
  | lst xs =>
    simp only [slD, Option.some.injEq] at e
    subst e
    refine .inr ⟨xs, rfl, fun p vs hp rv => .inr ⟨p, vs, rfl, upd_same, fun o => ?_⟩⟩
    rw [upd_frz]
    exact q _ _ (Same.upd hp) (relLst hp rv)
  | _ => simp [slD] at e
theorem set_self {σ : L2.St} {i : Nat} {x : Option V} (h : σ[i]? = some x) : σ.set i x = σ := by
  refine List.ext_getElem? fun j => ?_
  by_cases hj : j = i
  · subst hj
    rw [List.getElem?_set_self (List.getElem?_eq_some_iff.mp h).1, h]
  · rw [List.getElem?_set_ne (Ne.symm hj)]
/-- xs.append(e), xs a list of our own -/
theorem s_app (hK : X.K = G.K) {n : Nat} {x : Str} {px apos : Pos} (h1 : X.N[n]? = some x) (h2 : Vis X.env.scope x) (h3 : (x == ("__debug__" : Str)) = false) (h4 : (x == ("__classdict__" : Str)) = false) (ha : SE G ex μ0 H0 W X a ma) (hst : notStar a = true) (hline : (apos.endLine == pos.line) = true) :
    SE G ex μ0 H0 W X (.Call (.Attribute (.Name x px) "append" apos) [a] [] pos) ((getOw n).bind fun _ => ma.bind fun y => (getOw n).bind fun xs => if xs.length < lim then (putSl n (.ow (xs ++ [y]))).bind fun _ => M.pure .non else fun _ _ => .bad) := by
  have base := pe_bm (cpos := pos) (apos := apos) PySem.F.plainAttrs_list PySem.F.slot_list_append PySem.F.type_list_append mt_append (pe_var (pos := px) h1 h2 h3 h4) (pa_cons ha pa_nil (starEach_cons hst)) (hline := hline) (hs := starEach_cons hst) (hfew := by rw [starEach_cons hst]; rfl)
  refine PE.imp base fun σ H Q ⟨μ, h⟩ => ?_
  obtain ⟨ds, p, vs, g1, g2, g3, h⟩ := h.ow
  refine ⟨_, g1, .inl ⟨rfl, _, .of g2⟩, μ, (TMa.bind h).imp fun w H2 ⟨d, μ2, p2, k2, r2, h2⟩ => ?_⟩
  obtain ⟨ρ, S, J, h2⟩ := h2
  have h3 := post_bind h2
  unfold getOw at h3
  split at h3
  · rename_i xs e
    have h3 : ((if xs.length < lim then (putSl n (.ow (xs ++ [d]))).bind fun _ => M.pure .non else fun _ _ => .bad : M D) ρ S).post _ _ := h3
    split at h3
    · rename_i hl
      obtain ⟨p', ws, e1, e2, e3, _, _, f, J1⟩ := J.own e
      rw [g1] at e1
      cases e1
      have hi : n < ρ.length := (List.getElem?_eq_some_iff.mp e).1
      refine ⟨p, ws, w, rfl, rfl, e2, by rw [e3.length]; exact hl, ?_⟩
      have c : Calm H2 (upd H2 p (.lst (ws ++ [w]))) := Calm.upd e2
      have J2 := J1.chg (o := .lst (ws ++ [w])) e2 f
      have J3 := J2.setOw (i := n) (p := p) (vs := ws ++ [w]) (ds := xs ++ [d]) upd_same ((RelL.mono (List.prefix_refl _) c.keep _ _ e3).append (.cons (Rel.mono (List.prefix_refl _) c.keep _ _ r2) .nil)) f (by rw [List.length_set]; exact hi)
      rw [List.set_set, set_self g1] at J3
      have h4 := post_bind h3
      unfold putSl at h4
      rw [if_pos hi] at h4
      exact h4 .non _ μ2 (List.prefix_refl _) c.keep J3 .non
    · exact h3.elim
  · exact h3.elim
/-- xs.pop(0), xs a changing list -/
theorem s_popc (hK : X.K = G.K) {n : Nat} {x : Str} {px apos p3 : Pos} {k3 : Nat} (h1 : X.N[n]? = some x) (h2 : Vis X.env.scope x) (h3 : (x == ("__debug__" : Str)) = false) (h4 : (x == ("__classdict__" : Str)) = false) (hline : (apos.endLine == pos.line) = true) :
    SE G ex μ0 H0 W X (.Call (.Attribute (.Name x px) "pop" apos) [.Constant (.int 0) k3 p3] [] pos) ((getSh n).bind fun d => popM d) := by
  have base := pe_bm (cpos := pos) (apos := apos) PySem.F.plainAttrs_list PySem.F.slot_list_pop PySem.F.type_list_pop mt_popAt (pe_var (pos := px) h1 h2 h3 h4) (pa_cons (pe_int (i := 0) (j := k3) (pos := p3)) pa_nil) (hline := hline)
  refine PE.imp base fun σ H Q ⟨μ, h⟩ => ?_
  obtain ⟨d, v, g1, g2, h⟩ := h.sh
  obtain ⟨ρ, S, J, h⟩ := h
  cases d with
  | ob m =>
    cases g2 with
    | ob hm =>
      rename_i p
      unfold popM at h
      dsimp only at h
      cases es : S[m]? with
      | none => rw [es] at h; exact h.elim
      | some cl =>
        rw [es] at h
        cases cl with
        | ins c fs => exact h.elim
        | lst xs =>
          cases xs with
          | nil => exact h.elim
          | cons y ys =>
            obtain ⟨vs, hp, rv⟩ := J.cells.at_ m p _ hm es
            cases rv with
            | cons rw_ rt =>
              rename_i w ws
              refine ⟨_, g1, .inl ⟨rfl, _, .of hp⟩, p, w :: ws, 0, 0, w, rfl, rfl, hp, by decide, by decide, ?_, rfl, ?_⟩
              · show seqIndex? 0 (ws.length + 1) = some 0
                simp [seqIndex?]
              · have cm : Calm H (upd H p (.lst ws)) := Calm.upd hp
                have J2 := J.cell hm es hp rt
                exact h w _ μ (List.prefix_refl _) cm.keep J2 (Rel.mono (List.prefix_refl _) cm.keep _ _ rw_)
  | _ => exact h.elim
end
end Pv
end
section
set_option Elab.async false
set_option linter.all false
set_option maxRecDepth 100000
set_option maxHeartbeats 4000000
namespace Pv
open PySem PySem.Spec PyProof.Rows L2 RZ

/-- J yields the data ds -/
def ItOk (G : Wd) (μ : List Addr) (H1 : Hp) (J : L2.It) (ds : List D) : Prop := ∀ H, Keep H1 H → ∀ i, (i < ds.length → J.go i H) ∧ (ds.length ≤ i → J.stop i H) ∧
  ∀ x H', i < ds.length → J.yld i H x H' → Same H H' ∧ ∃ d, ds[i]? = some d ∧ Rel G μ H' x d
def TIt (G : Wd) (ex : Nat → Value) (μ0 : List Addr) (H0 : Hp) (W : WX) (m : M (List D)) : TI := fun σ H R => ∃ μ ρ S, Jn G μ0 H0 μ σ H ρ S ∧ (m ρ S).post
  (fun ds ρ' S' => ∀ J H' μ', μ <+: μ' → Keep H H' → Jn G μ0 H0 μ' σ H' ρ' S' → ItOk G μ' H' J ds → R J H')
  (fun c ρ' S' => ∀ H' μ', μ <+: μ' → Keep H H' → Jn G μ0 H0 μ' σ H' ρ' S' → W (ex c) none σ H')
theorem RelL.at {G : Wd} {μ : List Addr} {H : Hp} {vs : List V} {ds : List D} (r : RelL G μ H vs ds) {i : Nat} (hi : i < ds.length) : ∃ v d, vs[i]? = some v ∧ ds[i]? = some d ∧ Rel G μ H v d := by
  have e : ds[i]? = some ds[i] := List.getElem?_eq_getElem hi
  obtain ⟨v, h1, h2⟩ := r.get e
  exact ⟨v, _, h1, e, h2⟩
section
variable {G : Wd} {μ : List Addr} {H1 : Hp}
theorem itl {K : PySem.W.Frag} {a : Addr} {vs : List V} {ds : List D} (h : Fz H1 a vs) (r : RelL G μ H1 vs ds) : ItOk G μ H1 (Itl K a) ds := fun H k i => by
  have h' : SqL K H a vs := (k.fz h).sq
  have r' := RelL.mono (List.prefix_refl _) k _ _ r
  refine ⟨fun hi => ?_, fun hi => ⟨vs, h', by rw [r.length]; exact hi⟩, fun x H' hi y => ?_⟩
  · obtain ⟨v, d, e1, e2, r3⟩ := r'.at hi
    exact ⟨vs, v, h', e1⟩
  · obtain ⟨e, y⟩ := y
    subst e
    obtain ⟨v, d, e1, e2, r3⟩ := r'.at hi
    have := y vs h'
    rw [e1] at this
    cases this
    exact ⟨Same.rfl', d, e2, r3⟩
theorem itt {a : Addr} {vs : List V} {ds : List D} (h : SqT G.K H1 a vs) (r : RelL G μ H1 vs ds) : ItOk G μ H1 (Itt G.K a) ds := fun H k i => by
  have h' : SqT G.K H a vs := k.sqT h
  have r' := RelL.mono (List.prefix_refl _) k _ _ r
  refine ⟨fun hi => ?_, fun hi => ⟨vs, h', by rw [r.length]; exact hi⟩, fun x H' hi y => ?_⟩
  · obtain ⟨v, d, e1, e2, r3⟩ := r'.at hi
    exact ⟨vs, v, h', e1⟩
  · obtain ⟨e, y⟩ := y
    subst e
    obtain ⟨v, d, e1, e2, r3⟩ := r'.at hi
    have := y vs h'
    rw [e1] at this
    cases this
    exact ⟨Same.rfl', d, e2, r3⟩
theorem itr {lo : Int} {n : Nat} {ds : List D} (e : ds = (List.range n).map fun i => .int (lo + (i : Nat))) : ItOk G μ H1 (Itr lo n) ds := fun H k i => by
  have hl : ds.length = n := by rw [e]; simp
  refine ⟨fun hi => by rw [hl] at hi; exact hi, fun hi => by rw [hl] at hi; exact hi, fun x H' hi y => ?_⟩
  obtain ⟨e1, e2⟩ := y
  subst e1 e2
  rw [hl] at hi
  exact ⟨Same.rfl', .int (lo + i), by rw [e]; simp [hi], .int _⟩
theorem enmD_get : ∀ (ds : List D) (k i : Nat), (enmD k ds)[i]? = (ds[i]?).map fun d => .tup [.int ((k + i : Nat) : Int), d]
  | [], _, _ => by simp [enmD]
  | d :: ds, k, 0 => by simp [enmD]
  | d :: ds, k, i + 1 => by
    simp only [enmD, List.getElem?_cons_succ]
    rw [enmD_get ds (k + 1) i]
    congr 2
    funext d
    congr 3
    omega
theorem enmD_len : ∀ (ds : List D) (k : Nat), (enmD k ds).length = ds.length
  | [], _ => rfl
  | d :: ds, k => by simp [enmD, enmD_len ds]
theorem ite {a : Addr} {vs : List V} {ds : List D} (h : Fz H1 a vs) (r : RelL G μ H1 vs ds) : ItOk G μ H1 (Ite G.K a) (enmD 0 ds) := fun H k i => by
  have h' : SqL G.K H a vs := (k.fz h).sq
  have r' := RelL.mono (List.prefix_refl _) k _ _ r
  rw [enmD_len]
  refine ⟨fun hi => ?_, fun hi => ⟨vs, h', by rw [r.length]; exact hi⟩, fun x H' hi y => ?_⟩
  · obtain ⟨v, d, e1, e2, r3⟩ := r'.at hi
    exact ⟨vs, v, h', e1⟩
  · obtain ⟨T, x', rfl, hT, rfl, y⟩ := y
    obtain ⟨v, d, e1, e2, r3⟩ := r'.at hi
    have := y vs h'
    rw [e1] at this
    cases this
    refine ⟨Same.upd hT, _, by rw [enmD_get, e2]; rfl, ?_⟩
    rw [Nat.zero_add]
    exact relTup hT (.cons (.int _) (.cons r3 .nil))
theorem zipD_get : ∀ (xs ys : List D) (i : Nat), (zipD xs ys)[i]? = match xs[i]?, ys[i]? with | some x, some y => some (.tup [x, y]) | _, _ => none
  | [], ys, i => by cases ys <;> simp [zipD]
  | x :: xs, [], i => by
    simp only [zipD, List.getElem?_nil]
    cases (x :: xs)[i]? <;> rfl
  | x :: xs, y :: ys, 0 => by simp [zipD]
  | x :: xs, y :: ys, i + 1 => by simp only [zipD, List.getElem?_cons_succ]; exact zipD_get xs ys i
theorem zipD_len : ∀ (xs ys : List D), (zipD xs ys).length = min xs.length ys.length
  | [], ys => by cases ys <;> simp [zipD]
  | x :: xs, [] => by simp [zipD]
  | x :: xs, y :: ys => by simp only [zipD, List.length_cons, zipD_len xs ys]; omega
theorem itz {a b : Addr} {vs ws : List V} {ds es : List D} (h : Fz H1 a vs) (r : RelL G μ H1 vs ds) (h2 : Fz H1 b ws) (r2 : RelL G μ H1 ws es) : ItOk G μ H1 (Itz G.K a b) (zipD ds es) := fun H k i => by
  have h' : SqL G.K H a vs := (k.fz h).sq
  have r' := RelL.mono (List.prefix_refl _) k _ _ r
  have g' : SqL G.K H b ws := (k.fz h2).sq
  have s' := RelL.mono (List.prefix_refl _) k _ _ r2
  rw [zipD_len]
  refine ⟨fun hi => ?_, fun hi => ⟨vs, ws, h', g', by rw [r.length, r2.length]; omega⟩, fun x H' hi y => ?_⟩
  · obtain ⟨v, d, e1, e2, r3⟩ := r'.at (i := i) (by omega)
    obtain ⟨w, e, e3, e4, r4⟩ := s'.at (i := i) (by omega)
    exact ⟨vs, ws, v, w, h', g', e1, e3⟩
  · obtain ⟨T, x1, x2, rfl, hT, rfl, y1, y2⟩ := y
    obtain ⟨v, d, e1, e2, r3⟩ := r'.at (i := i) (by omega)
    obtain ⟨w, e, e3, e4, r4⟩ := s'.at (i := i) (by omega)
    have z1 := y1 vs h'
    have z2 := y2 ws g'
    rw [e1] at z1; rw [e3] at z2
    cases z1; cases z2
    exact ⟨Same.upd hT, _, by rw [zipD_get, e2, e4], relTup hT (.cons r3 (.cons r4 .nil))⟩
theorem itzT {a b : Addr} {vs ws : List V} {ds es : List D} (h : SqT G.K H1 a vs) (r : RelL G μ H1 vs ds) (h2 : SqT G.K H1 b ws) (r2 : RelL G μ H1 ws es) : ItOk G μ H1 (ItzT G.K a b) (zipD ds es) := fun H k i => by
  have h' : SqT G.K H a vs := k.sqT h
  have r' := RelL.mono (List.prefix_refl _) k _ _ r
  have g' : SqT G.K H b ws := k.sqT h2
  have s' := RelL.mono (List.prefix_refl _) k _ _ r2
  rw [zipD_len]
  refine ⟨fun hi => ?_, fun hi => ⟨vs, ws, h', g', by rw [r.length, r2.length]; omega⟩, fun x H' hi y => ?_⟩
  · obtain ⟨v, d, e1, e2, r3⟩ := r'.at (i := i) (by omega)
    obtain ⟨w, e, e3, e4, r4⟩ := s'.at (i := i) (by omega)
    exact ⟨vs, ws, v, w, h', g', e1, e3⟩
  · obtain ⟨T, x1, x2, rfl, hT, rfl, y1, y2⟩ := y
    obtain ⟨v, d, e1, e2, r3⟩ := r'.at (i := i) (by omega)
    obtain ⟨w, e, e3, e4, r4⟩ := s'.at (i := i) (by omega)
    have z1 := y1 vs h'
    have z2 := y2 ws g'
    rw [e1] at z1; rw [e3] at z2
    cases z1; cases z2
    exact ⟨Same.upd hT, _, by rw [zipD_get, e2, e4], relTup hT (.cons r3 (.cons r4 .nil))⟩
end
section
variable {G : Wd} {ex : Nat → Value} {μ0 : List Addr} {H0 : Hp} {W : WX} {X : Cx} {a b tg : Expr} {ma mb : M D} {pos : Pos}
abbrev SI (G : Wd) (ex : Nat → Value) (μ0 : List Addr) (H0 : Hp) (W : WX) (X : Cx) (tg e : Expr) (m : M (List D)) : Prop := PI X tg e (TIt G ex μ0 H0 W m)
theorem i_seq (hK : X.K = G.K) (ha : SE G ex μ0 H0 W X a ma) : SI G ex μ0 H0 W X tg a (ma.bind fun x => M.of (asSeq x)) := by
  refine ⟨fun pins s σ H R I ⟨μ, ρ, S, J, h⟩ => ?_⟩
  have h := post_bind h
  cases q : ma ρ S with
  | ok d ρ1 S1 =>
    rw [q] at h
    obtain ⟨l, e, h⟩ := post_of h
    cases d with
    | tup xs =>
      simp only [asSeq, Option.some.injEq] at e
      subst e
      refine (pi_tup ha).run pins s σ H R I ⟨μ, ρ, S, J, ?_⟩
      rw [q]
      intro v H' μ' p k J' r
      obtain ⟨a, vs, rfl, h1, r1⟩ := rel_tup r
      exact ⟨a, rfl, ⟨vs, hK ▸ h1⟩, by rw [hK]; exact h _ H' μ' p k J' (itt h1 r1)⟩
    | lst xs =>
      simp only [asSeq, Option.some.injEq] at e
      subst e
      refine (pi_list ha).run pins s σ H R I ⟨μ, ρ, S, J, ?_⟩
      rw [q]
      intro v H' μ' p k J' r
      obtain ⟨a, vs, rfl, h1, r1⟩ := rel_lst r
      exact ⟨a, rfl, ⟨vs, h1.sq⟩, h _ H' μ' p k J' (itl h1 r1)⟩
    | _ => simp [asSeq] at e
  | ex c ρ1 S1 =>
    rw [q] at h
    refine (pi_tup ha).run pins s σ H R I ⟨μ, ρ, S, J, ?_⟩
    rw [q]
    exact h
  | bad => rw [q] at h; exact h.elim
theorem i_enm (hK : X.K = G.K) {p1 tp : Pos} {els : List Expr} {kk : Nat} (hg : Gl X "enumerate") (hm : X.mg "enumerate" = none) (ha : SE G ex μ0 H0 W X a ma) (hst : notStar a = true) :
    SI G ex μ0 H0 W X (.Tuple els kk tp) (.Call (.Name "enumerate" p1) [a] [] pos) (ma.bind fun x => (M.of (asLst x)).bind fun xs => M.pure (enmD 0 xs)) := by
  refine ⟨fun pins s σ H R I ⟨μ, ρ, S, J, h⟩ => (pi_enum hg hm (pa_cons ha pa_nil (starEach_cons hst)) (starEach_cons hst)).run pins s σ H R I ⟨μ, ρ, S, J, (post_bind h).imp (fun d ρ1 S1 h1 v H' μ' p k J' r => ?_) fun _ _ _ z => z⟩⟩
  obtain ⟨l, e, h1⟩ := post_of (post_bind h1)
  cases d with
  | lst xs =>
    simp only [asLst, Option.some.injEq] at e
    subst e
    obtain ⟨a, vs, rfl, g1, r1⟩ := rel_lst r
    exact ⟨a, vs, rfl, g1.sq, by rw [hK]; exact h1 _ H' μ' p k J' (ite g1 r1)⟩
  | _ => simp [asLst] at e
theorem i_zip (hK : X.K = G.K) {p1 tp : Pos} {els : List Expr} {kk : Nat} (hg : Gl X "zip") (hm : X.mg "zip" = none) (ha : SE G ex μ0 H0 W X a ma) (hst : notStar a = true) (hb : SE G ex μ0 H0 W X b mb) (hst2 : notStar b = true) :
    SI G ex μ0 H0 W X (.Tuple els kk tp) (.Call (.Name "zip" p1) [a, b] [] pos) (ma.bind fun x => mb.bind fun y => (M.of (zipS x y)).bind fun l => M.pure l) := by
  refine ⟨fun pins s σ H R I ⟨μ, ρ, S, J, h⟩ => (pi_zipA hg hm (pa_cons ha (pa_cons hb pa_nil (starEach_cons hst2)) (starEach_cons hst)) (starEach_cons hst) (starAny (by simp [hst2]))).run pins s σ H R I ⟨μ, ρ, S, J, (post_bind h).imp (fun d ρ1 S1 h1 v H1 μ1 p1 k1 J1 r1 => ?_) fun _ _ _ z => z⟩⟩
  refine ⟨μ1, ρ1, S1, J1, (post_bind h1).imp (fun e ρ2 S2 h2 w H2 μ2 p2 k2 J2 r2 => ?_) fun c ρ2 S2 z H2 μ2 p2 k2 J2 => z H2 μ2 (p1.trans p2) (k1.trans k2) J2⟩
  obtain ⟨l, e3, h3⟩ := post_of (post_bind h2)
  have rd := Rel.mono p2 k2 _ _ r1
  cases d with
  | lst xs =>
    cases e with
    | lst ys =>
      simp only [zipS, Option.some.injEq] at e3
      subst e3
      obtain ⟨a, vs, rfl, g1, q1⟩ := rel_lst rd
      obtain ⟨b, ws, rfl, g2, q2⟩ := rel_lst r2
      exact ⟨a, b, vs, ws, rfl, .inl ⟨g1.sq, g2.sq, by rw [hK]; exact h3 _ H2 μ2 (p1.trans p2) (k1.trans k2) J2 (itz g1 q1 g2 q2)⟩⟩
    | _ => simp [zipS] at e3
  | tup xs =>
    cases e with
    | tup ys =>
      simp only [zipS, Option.some.injEq] at e3
      subst e3
      obtain ⟨a, vs, rfl, g1, q1⟩ := rel_tup rd
      obtain ⟨b, ws, rfl, g2, q2⟩ := rel_tup r2
      exact ⟨a, b, vs, ws, rfl, .inr ⟨hK ▸ g1, hK ▸ g2, by rw [hK]; exact h3 _ H2 μ2 (p1.trans p2) (k1.trans k2) J2 (itzT g1 q1 g2 q2)⟩⟩
    | _ => simp [zipS] at e3
  | _ => simp [zipS] at e3
theorem i_rng {p1 : Pos} (hg : Gl X "range") (hm : X.mg "range" = none) (ha : SE G ex μ0 H0 W X a ma) (hst : notStar a = true) :
    SI G ex μ0 H0 W X tg (.Call (.Name "range" p1) [a] [] pos) (ma.bind fun x => M.of (rng1 x)) := by
  refine ⟨fun pins s σ H R I ⟨μ, ρ, S, J, h⟩ => (pi_range1 hg hm (pa_cons ha pa_nil (starEach_cons hst)) (starEach_cons hst)).run pins s σ H R I ⟨μ, ρ, S, J, (post_bind h).imp (fun d ρ1 S1 h1 v H' μ' p k J' r => ?_) fun _ _ _ z => z⟩⟩
  obtain ⟨l, e, h2⟩ := post_of h1
  cases d with
  | int n =>
    simp only [rng1] at e
    split at e
    · rename_i hb
      cases e
      obtain rfl := rel_int r
      exact ⟨n, rfl, hb.1, hb.2, h2 _ H' μ' p k J' (itr rfl)⟩
    · cases e
  | _ => simp [rng1] at e
theorem i_rng2 {p1 : Pos} (hg : Gl X "range") (hm : X.mg "range" = none) (ha : SE G ex μ0 H0 W X a ma) (hst : notStar a = true) (hb : SE G ex μ0 H0 W X b mb) (hst2 : notStar b = true) :
    SI G ex μ0 H0 W X tg (.Call (.Name "range" p1) [a, b] [] pos) (ma.bind fun x => mb.bind fun y => M.of (rng2 x y)) := by
  refine ⟨fun pins s σ H R I ⟨μ, ρ, S, J, h⟩ => (pi_range2 hg hm (pa_cons ha (pa_cons hb pa_nil (starEach_cons hst2)) (starEach_cons hst)) (by rw [starEach_cons hst, starEach_cons hst2]; rfl) (by rw [starEach_cons hst2]; rfl)).run pins s σ H R I ⟨μ, ρ, S, J, (post_bind h).imp (fun d ρ1 S1 h1 v H1 μ1 p1 k1 J1 r1 => ?_) fun _ _ _ z => z⟩⟩
  refine ⟨μ1, ρ1, S1, J1, (post_bind h1).imp (fun e ρ2 S2 h2 w H2 μ2 p2 k2 J2 r2 => ?_) fun c ρ2 S2 z H2 μ2 p2 k2 J2 => z H2 μ2 (p1.trans p2) (k1.trans k2) J2⟩
  obtain ⟨l, e3, h3⟩ := post_of h2
  have rd := Rel.mono p2 k2 _ _ r1
  cases d with
  | int n =>
    cases e with
    | int m =>
      simp only [rng2] at e3
      split at e3
      · rename_i hbd
        cases e3
        obtain rfl := rel_int rd
        obtain rfl := rel_int r2
        exact ⟨n, m, rfl, hbd, h3 _ H2 μ2 (p1.trans p2) (k1.trans k2) J2 (itr rfl)⟩
      · cases e3
    | _ => simp [rng2] at e3
  | _ => simp [rng2] at e3
end
end Pv
end
section
set_option Elab.async false
set_option linter.all false
set_option maxRecDepth 100000
set_option maxHeartbeats 4000000
namespace Pv
open PySem PySem.Spec PyProof.Rows L2

theorem wipe_get (σ : L2.St) : ∀ (vs : List Nat) (j : Nat), (L2.wipe σ vs)[j]? = if j ∈ vs then (σ[j]?).map (fun _ => none) else σ[j]?
  | [], j => by simp [L2.wipe]
  | v :: vs, j => by
    unfold L2.wipe
    rw [List.getElem?_set]
    by_cases h : v = j
    · subst h
      simp only [if_pos rfl, List.mem_cons_self, if_true]
      rw [L2.wipe_length]
      by_cases hl : v < σ.length
      · simp [hl]
      · simp [hl, List.getElem?_eq_none (Nat.le_of_not_lt hl)]
    · rw [if_neg h, wipe_get σ vs j]
      have hm : j ∈ v :: vs ↔ j ∈ vs := by simp [Ne.symm h]
      by_cases hj : j ∈ vs
      · rw [if_pos hj, if_pos (hm.mpr hj)]
      · rw [if_neg hj, if_neg (fun z => hj (hm.mp z))]
theorem wipeR_len (ρ : Ro) : ∀ vs : List Nat, (wipeR ρ vs).length = ρ.length
  | [] => rfl
  | v :: vs => by unfold wipeR; rw [List.length_set, wipeR_len ρ vs]
theorem wipeR_get (ρ : Ro) : ∀ (vs : List Nat) (j : Nat), (wipeR ρ vs)[j]? = if j ∈ vs then (ρ[j]?).map (fun _ => .no) else ρ[j]?
  | [], j => by simp [wipeR]
  | v :: vs, j => by
    unfold wipeR
    rw [List.getElem?_set]
    by_cases h : v = j
    · subst h
      simp only [if_pos rfl, List.mem_cons_self, if_true]
      rw [wipeR_len]
      by_cases hl : v < ρ.length
      · simp [hl]
      · simp [hl, List.getElem?_eq_none (Nat.le_of_not_lt hl)]
    · rw [if_neg h, wipeR_get ρ vs j]
      have hm : j ∈ v :: vs ↔ j ∈ vs := by simp [Ne.symm h]
      by_cases hj : j ∈ vs
      · rw [if_pos hj, if_pos (hm.mpr hj)]
      · rw [if_neg hj, if_neg (fun z => hj (hm.mp z))]
theorem backR_len (ρ0 ρ : Ro) : ∀ vs : List Nat, (backR ρ0 ρ vs).length = ρ.length
  | [] => rfl
  | v :: vs => by unfold backR; rw [List.length_set, backR_len ρ0 ρ vs]
theorem backR_get (ρ0 ρ : Ro) : ∀ (vs : List Nat) (j : Nat), (backR ρ0 ρ vs)[j]? = if j ∈ vs then (ρ[j]?).map (fun _ => ρ0.getD j .no) else ρ[j]?
  | [], j => by simp [backR]
  | v :: vs, j => by
    unfold backR
    rw [List.getElem?_set]
    by_cases h : v = j
    · subst h
      simp only [if_pos rfl, List.mem_cons_self, if_true]
      rw [backR_len]
      by_cases hl : v < ρ.length
      · simp [hl]
      · simp [hl, List.getElem?_eq_none (Nat.le_of_not_lt hl)]
    · rw [if_neg h, backR_get ρ0 ρ vs j]
      have hm : j ∈ v :: vs ↔ j ∈ vs := by simp [Ne.symm h]
      by_cases hj : j ∈ vs
      · rw [if_pos hj, if_pos (hm.mpr hj)]
      · rw [if_neg hj, if_neg (fun z => hj (hm.mp z))]
section
variable {G : Wd} {μ0 μ μ1 : List Addr} {H0 H H1 : Hp} {σ : L2.St} {ρ ρ1 : Ro} {S S1 : So}
theorem Jn.wipe (J : Jn G μ0 H0 μ σ H ρ S) (vs : List Nat) : Jn G μ0 H0 μ (L2.wipe σ vs) H (wipeR ρ vs) S := by
  refine ⟨by rw [wipeR_len, L2.wipe_length]; exact J.len, fun i d e => ?_, fun i ds e => ?_, J.cells, J.tabs, J.pre, J.new, J.frm⟩
  · rw [wipeR_get] at e
    rw [wipe_get]
    split at e
    · cases q : ρ[i]? <;> rw [q] at e <;> cases e
    · rw [if_neg ‹_›]
      exact J.sh i d e
  · rw [wipeR_get] at e
    split at e
    · cases q : ρ[i]? <;> rw [q] at e <;> cases e
    · rename_i hi
      obtain ⟨p, ws, h1, h2, h3, h4, h5, h6⟩ := J.ow i ds e
      refine ⟨p, ws, by rw [wipe_get, if_neg hi]; exact h1, h2, h3, h4, h5, fun j es g1 g2 => ?_⟩
      rw [wipeR_get] at g1
      split at g1
      · cases q : ρ[j]? <;> rw [q] at g1 <;> cases g1
      · rw [wipe_get, if_neg ‹_›] at g2
        exact h6 j es g1 g2
theorem Jn.back (J : Jn G μ0 H0 μ (L2.wipe σ vs) H ρ S) (J1 : Jn G μ0 H0 μ1 σ H1 ρ1 S1) (p : μ1 <+: μ) (k : Keep H1 H) (no : noOw ρ1 vs = true) : Jn G μ0 H0 μ σ H (backR ρ1 ρ vs) S := by
  have nn : ∀ j, j ∈ vs → ∀ ds, ρ1.getD j .no ≠ .ow ds := fun j hj ds z => by
    unfold noOw at no
    have := List.all_eq_true.mp no j hj
    rw [List.getD_eq_getElem?_getD] at z
    cases q : ρ1[j]? with
    | none => rw [q] at this; cases this
    | some x =>
      rw [q] at z this
      have z : x = .ow ds := z
      subst z
      cases this
  have back : ∀ j, j ∉ vs → ∀ {x}, (L2.wipe σ vs)[j]? = x → σ[j]? = x := fun j hj x e => by rw [wipe_get, if_neg hj] at e; exact e
  refine ⟨by rw [backR_len, J.len, L2.wipe_length], fun i d e => ?_, fun i ds e => ?_, J.cells, J.tabs, J.pre, J.new, J.frm⟩
  · rw [backR_get] at e
    split at e
    · rename_i hi
      cases q : ρ[i]? with
      | none => rw [q] at e; cases e
      | some x =>
        rw [q] at e
        have e : ρ1.getD i .no = .sh d := by simpa using e
        rw [List.getD_eq_getElem?_getD] at e
        cases q1 : ρ1[i]? with
        | none => rw [q1] at e; cases e
        | some y =>
          rw [q1] at e
          have e : y = .sh d := e
          subst e
          obtain ⟨v, h1, h2⟩ := J1.sh i d q1
          exact ⟨v, h1, Rel.mono p k _ _ h2⟩
    · obtain ⟨v, h1, h2⟩ := J.sh i d e
      exact ⟨v, back i ‹_› h1, h2⟩
  · rw [backR_get] at e
    split at e
    · rename_i hi
      cases q : ρ[i]? with
      | none => rw [q] at e; cases e
      | some x =>
        rw [q] at e
        exact (nn i hi ds (by simpa using e)).elim
    · obtain ⟨q, ws, h1, h2, h3, h4, h5, h6⟩ := J.ow i ds e
      refine ⟨q, ws, back i ‹_› h1, h2, h3, h4, h5, fun j es g1 g2 => ?_⟩
      rw [backR_get] at g1
      split at g1
      · rename_i hj
        cases q : ρ[j]? with
        | none => rw [q] at g1; cases g1
        | some x =>
          rw [q] at g1
          exact (nn j hj es (by simpa using g1)).elim
      · exact h6 j es g1 (by rw [wipe_get, if_neg ‹_›]; exact g2)
/-- p stands with vs: told of the entry -/
theorem Jn.prot (J : Jn G μ0 H0 μ σ H ρ S) {p : Addr} {vs : List V} (hp : H p = some (.lst vs)) (f : Frs μ0 H0 μ σ ρ p) : Jn G μ0 (upd H0 p (.lst vs)) μ σ H ρ S := by
  refine ⟨J.len, J.sh, fun i ds e => ?_, J.cells, J.tabs, J.pre, fun a h1 h2 => ?_, ⟨fun b o h1 h2 h3 => ?_, fun b ps h => ?_⟩⟩
  · obtain ⟨q, ws, h1, h2, h3, h4, h5, h6⟩ := J.ow i ds e
    exact ⟨q, ws, h1, h2, h3, h4, by rw [upd_ne (fun z : q = p => f.ow i ds e (z ▸ h1))]; exact h5, h6⟩
  · rw [upd_ne (fun z : a = p => f.mu (z ▸ h1))]
    exact J.new a h1 h2
  · by_cases hb : b = p
    · subst hb
      rw [upd_same] at h1
      cases h1
      exact hp
    · rw [upd_ne hb] at h1
      exact J.frm.stay b o h1 h2 h3
  · by_cases hb : b = p
    · subst hb
      rw [upd_same] at h
      cases h
    · rw [upd_ne hb] at h
      exact J.frm.tbl b ps h
theorem Jn.unprot {p : Addr} {vs : List V} (J : Jn G μ0 (upd H0 p (.lst vs)) μ σ H ρ S) (h0 : H0 p = none) (hm : p ∉ μ0) : Jn G μ0 H0 μ σ H ρ S ∧ H p = some (.lst vs) ∧ Frs μ0 H0 μ σ ρ p := by
  have hp : H p = some (.lst vs) := J.frm.stay p _ upd_same hm (fun _ z => by cases z)
  have low : ∀ b o, H0 b = some o → upd H0 p (.lst vs) b = some o := fun b o e => by rw [upd_ne (ne_of_none e h0)]; exact e
  refine ⟨⟨J.len, J.sh, fun i ds e => ?_, J.cells, J.tabs, J.pre, fun a h1 h2 => ?_, ⟨fun b o h1 h2 h3 => J.frm.stay b o (low b o h1) h2 h3, fun b ps h => J.frm.tbl b ps (low b _ h)⟩⟩, hp, ⟨fun z => ?_, h0, fun i ds e z => ?_⟩⟩
  · obtain ⟨q, ws, h1, h2, h3, h4, h5, h6⟩ := J.ow i ds e
    refine ⟨q, ws, h1, h2, h3, h4, ?_, h6⟩
    cases x : H0 q with
    | none => rfl
    | some o => rw [low q o x] at h5; cases h5
  · have := J.new a h1 h2
    cases x : H0 a with
    | none => rfl
    | some o => rw [low a o x] at this; cases this
  · have := J.new p z hm
    rw [upd_same] at this; cases this
  · obtain ⟨q, ws, h1, h2, h3, h4, h5, h6⟩ := J.ow i ds e
    rw [z] at h1
    cases h1
    rw [upd_same] at h5; cases h5
end

section
variable (G : Wd) (μ0 : List Addr) (H0 : Hp)
/-- what is stored: the slots l alone -/
def TTg {α A : Type} (RA : List Addr → Hp → A → α → Prop) (l : List Nat) (st : α → M Unit) (v : A) (σ : L2.St) (H : Hp) (Q : L2.St → Hp → Prop) : Prop := ∃ μ ρ S d, Jn G μ0 H0 μ σ H ρ S ∧ RA μ H v d ∧ (st d ρ S).post
  (fun _ ρ' S' => ∀ σ' H' μ', μ <+: μ' → Keep H H' → Jn G μ0 H0 μ' σ' H' ρ' S' → σ'.length = σ.length → (∀ j, j ∉ l → σ'[j]? = σ[j]?) → Q σ' H') (fun _ _ _ => False)
end
theorem assignEach_len {env : Env} : ∀ es : List Expr, (assignEach es env).length = es.length
  | [] => rfl
  | e :: es => by cases e <;> simp [assignEach, assignEach_len es]
theorem assignEach_star {env : Env} : ∀ {es : List Expr}, es.all notStar = true → (assignEach es env).findIdx? (·.1) = none
  | [], _ => rfl
  | e :: es, h => by
    rw [List.all_cons, Bool.and_eq_true] at h
    have ih := assignEach_star (env := env) h.2
    cases e <;> first | (simp [notStar] at h; done) | (simp only [assignEach, List.findIdx?_cons, ih]; rfl)
section
variable {G : Wd} {μ0 : List Addr} {H0 : Hp} {X : Cx} {pos : Pos}
theorem g_nm {i : Nat} {x : Str} (hN : X.N.Nodup) (hi : X.N[i]? = some x) (hx : L2.Loc X.env.scope x) (hf : X.fn x = true ∨ X.env.scope.names.lookup x = some .local) : PG X (.Name x pos) (TTg G μ0 H0 (Rel G) [i] fun d => putSl i (.sh d)) := by
  refine ⟨fun pins s σ H v u Q I r ⟨μ, ρ, S, d, J, rd, h⟩ => (pg_name hN hi hx hf).run pins s σ H v u Q I r ?_⟩
  unfold putSl at h
  dsimp only at h
  split at h
  · rename_i hl
    exact h _ _ μ (List.prefix_refl _) (Keep.refl H) (J.setSh rd hl) (List.length_set ..) fun j hj => List.getElem?_set_ne (fun z => hj (by simp [z]))
  · exact h.elim
theorem gs_nil : PGs X [] (TTg G μ0 H0 (RelL G) [] (asgs .nil)) := by
  refine ⟨fun pins s σ H vs us Q I r ⟨μ, ρ, S, ds, J, rd, h⟩ => pgs_nil.run pins s σ H vs us Q I r ?_⟩
  cases rd with
  | nil => exact ⟨rfl, h σ H μ (List.prefix_refl _) (Keep.refl H) J rfl fun _ _ => rfl⟩
  | cons a b => exact h.elim
theorem gs_cons {e : Expr} {es : List Expr} {t : Tg} {ts : Tgs} (h1 : PG X e (TTg G μ0 H0 (Rel G) t.sl (asg t))) (h2 : PGs X es (TTg G μ0 H0 (RelL G) ts.sl (asgs ts))) (hst : notStar e = true) :
    PGs X (e :: es) (TTg G μ0 H0 (RelL G) (t.sl ++ ts.sl) (asgs (.cons t ts))) := by
  refine ⟨fun pins s σ H vs us Q I r ⟨μ, ρ, S, ds, J, rd, h⟩ => (pgs_cons h1 h2 (by cases e <;> first | rfl | (simp [notStar] at hst))).run pins s σ H vs us Q I r ?_⟩
  cases rd with
  | nil => exact h.elim
  | @cons v vr d dr rv rt =>
    refine ⟨v, vr, rfl, μ, ρ, S, d, J, rv, (post_bind h).imp (fun _ ρ1 S1 g1 σ1 H1 μ1 p1 k1 J1 l1 u1 => ⟨μ1, ρ1, S1, dr, J1, RelL.mono p1 k1 _ _ rt, g1.imp (fun _ ρ2 S2 g2 σ2 H2 μ2 p2 k2 J2 l2 u2 => ?_) fun _ _ _ z => z⟩) fun _ _ _ z => z⟩
    exact g2 σ2 H2 μ2 (p1.trans p2) (k1.trans k2) J2 (l2.trans l1) fun j hj => (u2 j fun z => hj (List.mem_append_right _ z)).trans (u1 j fun z => hj (List.mem_append_left _ z))
theorem g_tp {es : List Expr} {k : Nat} {ts : Tgs} (hK : X.K = G.K) (hc : X.calm = true) (hp : PGs X es (TTg G μ0 H0 (RelL G) ts.sl (asgs ts))) (hst : es.all notStar = true) (hl : ∀ ds ρ s u ρ' s', asgs ts ds ρ s = .ok u ρ' s' → ds.length = es.length) (hx : ∀ ds ρ s c ρ' s', asgs ts ds ρ s ≠ .ex c ρ' s') :
    PG X (.Tuple es k pos) (TTg G μ0 H0 (Rel G) ts.sl (asg (.tp ts))) := by
  refine ⟨fun pins s σ H v u Q I r ⟨μ, ρ, S, d, J, rd, h⟩ => ?_⟩
  have h : (((M.of (asSeq d)).bind fun ds => asgs ts ds) ρ S).post _ _ := h
  obtain ⟨ds, e, h⟩ := post_of (post_bind h)
  have hlen : ds.length = es.length := by
    cases q : asgs ts ds ρ S with
    | ok u ρ' s' => exact hl _ _ _ _ _ _ q
    | ex c ρ' s' => exact absurd q (hx _ _ _ _ _ _)
    | bad => rw [q] at h; exact h.elim
  cases d with
  | tup xs =>
    simp only [asSeq, Option.some.injEq] at e
    subst e
    obtain ⟨a, vs, rfl, h1, r1⟩ := rel_tup rd
    exact (pg_tup (n := es.length) hc hp (assignEach_len es) (assignEach_star hst)).run pins s σ H _ u Q I r ⟨a, vs, rfl, hK ▸ h1, by rw [r1.length]; exact hlen, μ, ρ, S, xs, J, r1, h⟩
  | lst xs =>
    simp only [asSeq, Option.some.injEq] at e
    subst e
    obtain ⟨a, vs, rfl, h1, r1⟩ := rel_lst rd
    exact (pg_lst (n := es.length) hc hp (assignEach_len es) (assignEach_star hst)).run pins s σ H _ u Q I r ⟨a, vs, rfl, h1.sq, by rw [r1.length]; exact hlen, μ, ρ, S, xs, J, r1, h⟩
  | _ => simp [asSeq] at e
end
mutual
theorem asg_nx : ∀ (t : Tg) (d : D) (ρ : Ro) (s : So) (c : Nat) (ρ' : Ro) (s' : So), asg t d ρ s ≠ .ex c ρ' s'
  | .nm i, d, ρ, s, c, ρ', s' => by
    show putSl i (.sh d) ρ s ≠ _
    unfold putSl
    split <;> exact fun z => nomatch z
  | .tp ts, d, ρ, s, c, ρ', s' => by
    show (M.of (asSeq d)).bind (fun ds => asgs ts ds) ρ s ≠ _
    unfold M.bind M.of
    cases asSeq d with
    | none => exact fun z => nomatch z
    | some ds => exact asgs_nx ts ds ρ s c ρ' s'
theorem asgs_nx : ∀ (ts : Tgs) (ds : List D) (ρ : Ro) (s : So) (c : Nat) (ρ' : Ro) (s' : So), asgs ts ds ρ s ≠ .ex c ρ' s'
  | .nil, [], ρ, s, c, ρ', s' => fun z => nomatch z
  | .nil, _ :: _, ρ, s, c, ρ', s' => fun z => nomatch z
  | .cons _ _, [], ρ, s, c, ρ', s' => fun z => nomatch z
  | .cons t ts, d :: ds, ρ, s, c, ρ', s' => by
    show (asg t d).bind (fun _ => asgs ts ds) ρ s ≠ _
    unfold M.bind
    cases q : asg t d ρ s with
    | ok u ρ1 s1 => exact asgs_nx ts ds ρ1 s1 c ρ' s'
    | ex c' ρ1 s1 => exact absurd q (asg_nx t d ρ s c' ρ1 s1)
    | bad => exact fun z => nomatch z
end
def Tgs.n : Tgs → Nat
  | .nil => 0
  | .cons _ ts => Tgs.n ts + 1
theorem asgs_len : ∀ (ts : Tgs) (ds : List D) (ρ : Ro) (s : So) (u : Unit) (ρ' : Ro) (s' : So), asgs ts ds ρ s = .ok u ρ' s' → ds.length = ts.n
  | .nil, [], _, _, _, _, _, _ => rfl
  | .nil, _ :: _, _, _, _, _, _, h => nomatch h
  | .cons _ _, [], _, _, _, _, _, h => nomatch h
  | .cons t ts, d :: ds, ρ, s, u, ρ', s', h => by
    have h : (asg t d).bind (fun _ => asgs ts ds) ρ s = _ := h
    unfold M.bind at h
    cases q : asg t d ρ s with
    | ok u1 ρ1 s1 => rw [q] at h; simp only [List.length_cons, asgs_len ts ds ρ1 s1 u ρ' s' h]; rfl
    | ex c' ρ1 s1 => rw [q] at h; cases h
    | bad => rw [q] at h; cases h
section
variable {G : Wd} {ex : Nat → Value} {μ0 : List Addr} {H0 : Hp} {Γ : Nm} {F : Nat → List D → So → FR} {gl : Nat → Option D} {lv : Nat} {X : Cx} {N : List Str} {sc : Scope} {top : Bool}
mutual
theorem g_ok (c : Ctxt G ex Γ F gl lv X N sc top) : ∀ (t : Tg) (e : Expr), ckT Γ N top t sc e = true → PG X e (TTg G μ0 H0 (Rel G) t.sl (asg t))
  | .nm i, e, h => by
    cases e with
    | Name x pos =>
      simp only [ckT] at h
      obtain ⟨h1, h2, h3⟩ := c.sto h
      exact g_nm (by rw [c.NN]; exact c.nd) h1 h2 h3
    | _ => simp [ckT] at h
  | .tp ts, e, h => by
    cases e with
    | Tuple es k pos =>
      simp only [ckT] at h
      obtain ⟨h1, h2, h3⟩ := gs_ok c ts es h
      exact g_tp c.K c.calm h1 h2 (fun ds ρ s u ρ' s' z => by rw [asgs_len ts ds ρ s u ρ' s' z]; exact h3) (asgs_nx ts)
    | _ => simp [ckT] at h
theorem gs_ok (c : Ctxt G ex Γ F gl lv X N sc top) : ∀ (ts : Tgs) (es : List Expr), ckTs Γ N top ts sc es = true → PGs X es (TTg G μ0 H0 (RelL G) ts.sl (asgs ts)) ∧ es.all notStar = true ∧ ts.n = es.length
  | .nil, es, h => by
    cases es with
    | nil => exact ⟨gs_nil, rfl, rfl⟩
    | cons e es => simp [ckTs] at h
  | .cons t ts, es, h => by
    cases es with
    | nil => simp [ckTs] at h
    | cons e es =>
      simp only [ckTs, Bool.and_eq_true] at h
      obtain ⟨h1, h2, h3⟩ := gs_ok c ts es h.2
      exact ⟨gs_cons (g_ok c t e h.1.1) h1 h.1.2, by rw [List.all_cons, h.1.2, h2]; rfl, by rw [List.length_cons, ← h3]; rfl⟩
end
end
end Pv
end
section
set_option Elab.async false
set_option linter.all false
set_option maxRecDepth 100000
set_option maxHeartbeats 4000000
namespace Pv
open PySem PySem.Spec PyProof.Rows L2

abbrev WF : WX := fun _ _ _ _ => False
theorem wipe_of {σ σ' : L2.St} {vs l : List Nat} (hl : σ'.length = σ.length) (h : ∀ j, j ∉ l → σ'[j]? = σ[j]?) (hs : ∀ j ∈ l, j ∈ vs) : L2.wipe σ' vs = L2.wipe σ vs := by
  refine List.ext_getElem? fun j => ?_
  rw [wipe_get, wipe_get]
  by_cases hj : j ∈ vs
  · rw [if_pos hj, if_pos hj]
    by_cases hk : j < σ.length
    · rw [List.getElem?_eq_getElem hk, List.getElem?_eq_getElem (by rw [hl]; exact hk)]
      rfl
    · rw [List.getElem?_eq_none (Nat.le_of_not_lt hk), List.getElem?_eq_none (by rw [hl]; exact Nat.le_of_not_lt hk)]
  · rw [if_neg hj, if_neg hj]
    exact h j fun z => hj (hs j z)
theorem wipe_wipe (σ : L2.St) (vs : List Nat) : L2.wipe (L2.wipe σ vs) vs = L2.wipe σ vs := by
  refine List.ext_getElem? fun j => ?_
  rw [wipe_get, wipe_get]
  by_cases hj : j ∈ vs
  · rw [if_pos hj, if_pos hj]
    cases σ[j]? <;> rfl
  · rw [if_neg hj, if_neg hj]
section
variable {G : Wd} {ex : Nat → Value} {μ0 : List Addr} {H0 : Hp} {W : WX} {X : Cx} {elt tg iter : Expr} {ifs : List Expr} {pos : Pos} {t : Tg} {own : List Nat} {mi : M (List D)} {mc : M Bool} {me : M D}
/-- the reading of a comprehension, for whatever rule takes it -/
theorem rd_comp (hsub : ∀ j ∈ t.sl, j ∈ own) {σ : L2.St} {H : Hp} {Q : VK} (h : TF G ex μ0 H0 W (mi.bind fun items => compM own (asg t) mc me items) σ H Q) :
    tLc (TIt G ex μ0 H0 W mi) (fun v σ H Q => ∃ H0', TTg G μ0 H0' (Rel G) t.sl (asg t) v σ H Q) (fun σ H Q => ∃ H0', TM G ex μ0 H0' WF RB mc σ H Q) (fun σ H Q => ∃ H0', TM G ex μ0 H0' WF (Rel G) me σ H Q) own σ H Q := by
  obtain ⟨μ, ρ, S, J, h⟩ := h
  refine ⟨μ, ρ, S, J, (post_bind h).imp (fun items ρ1 S1 h1 Jt H1 μ1 p1 k1 J1 itok Dl hD => ?_) fun _ _ _ z => z⟩
  -- the loop's end
  unfold compM at h1
  split at h1
  · rename_i no
    cases ql : cLoop own (asg t) mc me items [] (wipeR ρ1 own) S1 with
    | ok l ρ2 S2 =>
      rw [ql] at h1
      obtain ⟨ds, e, h1⟩ := h1
      cases e
      have D0 := J1.frs hD
      have sD : Same H1 (upd H1 Dl (.lst [])) := Same.upd hD
      have fD : Frs μ0 H0 μ1 (L2.wipe σ own) (wipeR ρ1 own) Dl := by
        refine ⟨D0.mu, D0.h0, fun i ds e => ?_⟩
        rw [wipeR_get] at e
        split at e
        · cases q : ρ1[i]? <;> rw [q] at e <;> cases e
        · rw [wipe_get, if_neg ‹_›]
          exact D0.ow i ds e
      have hD0 : Dl ∉ μ0 := fun z => D0.mu (by
        obtain ⟨tt, ht⟩ := J1.pre
        rw [← ht]
        exact List.mem_append_left _ z)
      refine ⟨fun i m H => m = items.length - i ∧ i ≤ items.length ∧ ∃ μ' ρ' S' acc vs, μ1 <+: μ' ∧ Keep H1 H ∧ Jn G μ0 H0 μ' (L2.wipe σ own) H ρ' S' ∧ H Dl = some (.lst vs) ∧ RelL G μ' H vs acc ∧ Frs μ0 H0 μ' (L2.wipe σ own) ρ' Dl ∧ cLoop own (asg t) mc me (items.drop i) acc ρ' S' = .ok l ρ2 S2,
        ⟨_, rfl, Nat.zero_le _, μ1, _, S1, [], [], List.prefix_refl _, sD.keep, (J1.wipe own).same sD, upd_same, .nil, fD, ql⟩, ?_⟩
      rintro i m H5 ⟨rfl, hi5, μ5, ρ5, S5, acc, vs, p5, k5, J5, hD5, r5, f5, q5⟩
      have it5 := itok H5 k5 i
      by_cases hlt : i < items.length
      · refine .inr ⟨it5.1 hlt, fun H' => (fun i m H => m = items.length - i ∧ i ≤ items.length ∧ ∃ μ' ρ' S' acc vs, μ1 <+: μ' ∧ Keep H1 H ∧ Jn G μ0 H0 μ' (L2.wipe σ own) H ρ' S' ∧ H Dl = some (.lst vs) ∧ RelL G μ' H vs acc ∧ Frs μ0 H0 μ' (L2.wipe σ own) ρ' Dl ∧ cLoop own (asg t) mc me (items.drop i) acc ρ' S' = .ok l ρ2 S2) (i + 1) (items.length - (i + 1)) H', fun H' w => ⟨_, by omega, w⟩, fun x H' y => ?_⟩
        obtain ⟨sm, d, hd, rd⟩ := it5.2.2 x H' hlt y
        have hdrop : items.drop i = d :: items.drop (i + 1) := by
          rw [List.drop_eq_getElem_cons hlt]
          congr 1
          rw [List.getElem?_eq_getElem hlt] at hd
          exact Option.some.inj hd
        rw [hdrop] at q5
        have q5 : ((asg t d).bind fun _ => mc.bind fun b => if b then me.bind (fun y => if acc.length < lim then (fun ρ s => cLoop own (asg t) mc me (items.drop (i + 1)) (acc ++ [y]) (wipeR ρ own) s) else fun _ _ => .bad) else fun ρ s => cLoop own (asg t) mc me (items.drop (i + 1)) acc (wipeR ρ own) s) ρ5 S5 = .ok l ρ2 S2 := q5
        unfold M.bind at q5
        cases qa : asg t d ρ5 S5 with
        | ok u ρ6 S6 =>
          rw [qa] at q5
          dsimp only at q5
          have J6 := (J5.same sm).prot (sm _ _ hD5) f5
          refine ⟨upd H0 Dl (.lst vs), μ5, ρ5, S5, d, J6, Rel.mono p5 (Keep.refl _) _ _ rd, ?_⟩
          rw [qa]
          intro σ7 H7 μ7 p7 k7 J7 l7 u7
          have w7 : L2.wipe σ7 own = L2.wipe σ own := (wipe_of l7 u7 hsub).trans (wipe_wipe σ own)
          refine ⟨w7, upd H0 Dl (.lst vs), μ7, ρ6, S6, J7, ?_⟩
          cases qb : mc ρ6 S6 with
          | ok b ρ8 S8 =>
            rw [qb] at q5
            dsimp only at q5
            intro b' H8 μ8 p8 k8 J8 e8
            have e8 : b' = b := e8
            subst e8
            cases b' with
            | false =>
              simp only [Bool.false_eq_true, if_false] at q5 ⊢
              obtain ⟨J9, hD9, f9⟩ := J8.unprot D0.h0 hD0
              have kk : Keep H5 H8 := (sm.keep.trans k7).trans k8
              refine ⟨trivial, hlt, μ8, _, S8, acc, vs, ((p5.trans p7).trans p8), k5.trans kk, ?_, hD9, RelL.mono (p7.trans p8) kk _ _ r5, ?_, q5⟩
              · rw [← w7]; exact J9.wipe own
              · rw [← w7]
                refine ⟨f9.mu, f9.h0, fun j es e => ?_⟩
                rw [wipeR_get] at e
                split at e
                · cases q : ρ8[j]? <;> rw [q] at e <;> cases e
                · rw [wipe_get, if_neg ‹_›]
                  exact f9.ow j es e
            | true =>
              simp only [if_true] at q5 ⊢
              refine ⟨upd H0 Dl (.lst vs), μ8, ρ8, S8, J8, ?_⟩
              cases qe : me ρ8 S8 with
              | ok y ρ9 S9 =>
                rw [qe] at q5
                dsimp only at q5
                intro v9 H9 μ9 p9 k9 J9 r9
                obtain ⟨J10, hD10, f10⟩ := J9.unprot D0.h0 hD0
                split at q5
                · rename_i hlim
                  have kk : Keep H5 H9 := ((sm.keep.trans k7).trans k8).trans k9
                  have r10 := RelL.mono ((p7.trans p8).trans p9) kk _ _ r5
                  have cm : Calm H9 (upd H9 Dl (.lst (vs ++ [v9]))) := Calm.upd hD10
                  refine ⟨vs, hD10, by rw [r5.length]; exact hlim, trivial, hlt, μ9, _, S9, acc ++ [y], vs ++ [v9], ((p5.trans p7).trans p8).trans p9, (k5.trans kk).trans cm.keep, ?_, upd_same, RelL.mono (List.prefix_refl _) cm.keep _ _ (r10.append (.cons r9 .nil)), ?_, q5⟩
                  · rw [← w7]; exact (J10.chg hD10 f10).wipe own
                  · rw [← w7]
                    refine ⟨f10.mu, f10.h0, fun j es e => ?_⟩
                    rw [wipeR_get] at e
                    split at e
                    · cases q : ρ9[j]? <;> rw [q] at e <;> cases e
                    · rw [wipe_get, if_neg ‹_›]
                      exact f10.ow j es e
                · cases q5
              | ex c ρ9 S9 => rw [qe] at q5; cases q5
              | bad => rw [qe] at q5; cases q5
          | ex c ρ8 S8 => rw [qb] at q5; cases q5
          | bad => rw [qb] at q5; cases q5
        | ex c ρ6 S6 => rw [qa] at q5; cases q5
        | bad => rw [qa] at q5; cases q5
      · have e : i = items.length := by omega
        subst e
        rw [List.drop_length] at q5
        have q5 : Out.ok acc ρ5 S5 = .ok l ρ2 S2 := q5
        cases q5
        refine .inl ⟨it5.2.1 (Nat.le_refl _), ?_⟩
        have JJ := J5.back J1 p5 k5 no
        refine h1 Dl vs H5 μ5 (p1.trans p5) (k1.trans k5) JJ hD5 r5 ⟨f5.mu, f5.h0, fun j es e => ?_⟩
        rw [backR_get] at e
        split at e
        · rename_i hj
          cases q : ρ2[j]? with
          | none => rw [q] at e; cases e
          | some x =>
            rw [q] at e
            have e : ρ1.getD j .no = .ow es := by simpa using e
            unfold noOw at no
            have nz := List.all_eq_true.mp no j hj
            rw [List.getD_eq_getElem?_getD] at e
            cases q1 : ρ1[j]? with
            | none => rw [q1] at e; cases e
            | some y =>
              rw [q1] at e nz
              have e : y = .ow es := e
              subst e
              cases nz
        · have := f5.ow j es e
          rw [wipe_get, if_neg ‹_›] at this
          exact this
    | ex c ρ2 S2 => rw [ql] at h1; exact h1.elim
    | bad => rw [ql] at h1; exact h1.elim
  · exact h1.elim
theorem s_compF {scope : Scope} {on : List (Str × Nat)} (hK : X.K = G.K) (hc : X.calm = true) (hN : X.N.Nodup) (ho : on.map (·.2) = own) (hi : SI G ex μ0 H0 W X tg iter mi) (ok : BlkOk X.N X.env.scope scope on) (hsub : ∀ j ∈ t.sl, j ∈ own) (hset : notSet iter = true)
    (hg : ∀ (s : Shared) (H : Hp) (C : Addr) (cl : List (Str × Addr)) (fp : List Addr) (H0' : Hp), PG (X.blk s H scope (compEnvC scope cl C X.env) fp) tg (TTg G μ0 H0' (Rel G) t.sl (asg t)))
    (ht : ∀ (s : Shared) (H : Hp) (C : Addr) (cl : List (Str × Addr)) (fp : List Addr) (H0' : Hp), PTs (X.blk s H scope (compEnvC scope cl C X.env) fp) ifs (TM G ex μ0 H0' WF RB mc))
    (he : ∀ (s : Shared) (H : Hp) (C : Addr) (cl : List (Str × Addr)) (fp : List Addr) (H0' : Hp), SE G ex μ0 H0' WF (X.blk s H scope (compEnvC scope cl C X.env) fp) elt me) :
    PE X (.ListComp elt [⟨tg, iter, ifs, 0⟩] scope pos) (TF G ex μ0 H0 W (mi.bind fun items => compM own (asg t) mc me items)) := by
  have base := pe_lc (pos := pos) (g := fun v σ H Q => ∃ H0', TTg G μ0 H0' (Rel G) t.sl (asg t) v σ H Q) (tt := fun σ H Q => ∃ H0', TM G ex μ0 H0' WF RB mc σ H Q) (te := fun σ H Q => ∃ H0', TM G ex μ0 H0' WF (Rel G) me σ H Q) hc hN hi ok
    (fun s H C cl fp => ⟨fun pins s σ H v u Q I r ⟨H0', h⟩ => (hg _ _ C cl fp H0').run pins s σ H v u Q I r h⟩)
    (fun s H C cl fp => ⟨fun pins s σ H Q I ⟨H0', h⟩ => (ht _ _ C cl fp H0').run pins s σ H Q I h⟩)
    (fun s H C cl fp => ⟨fun pins s σ H Q I ⟨H0', h⟩ => (he _ _ C cl fp H0').run pins s σ H Q I h⟩)
    (by intro x; cases iter <;> first | rfl | (simp [notSet] at hset))
  rw [ho] at base
  exact PE.imp base fun σ H Q h => rd_comp hsub h
theorem lists_comp {st : D → M Unit} {mc : M Bool} {me : M D} : Lists (mi.bind fun items => compM own st mc me items) := fun ρ s d ρ' s' h => by
  unfold M.bind at h
  cases q : mi ρ s with
  | ok ds ρ1 s1 =>
    rw [q] at h
    dsimp only [compM] at h
    split at h
    · cases q2 : cLoop own st mc me ds [] (wipeR ρ1 own) s1 <;> rw [q2] at h <;> cases h
      exact ⟨_, rfl⟩
    · cases h
  | ex c ρ1 s1 => rw [q] at h; cases h
  | bad => rw [q] at h; cases h
end
end Pv
end
section
set_option Elab.async false
set_option linter.all false
set_option maxRecDepth 100000
set_option maxHeartbeats 4000000
namespace Pv
open PySem PySem.Spec PyProof.Rows L2

def isBo : Expr → Bool
  | .BoolOp .. => true
  | _ => false
structure Sd (G : Wd) (ex : Nat → Value) (μ0 : List Addr) (H0 : Hp) (W : WX) (X : Cx) (p : Expr) (m : M D) (fr : Bool) : Prop where
  se : SE G ex μ0 H0 W X p m
  st : notIf p = true → ST G ex μ0 H0 W X p (tst m)
  pw : isBo p = true → PW X p (TM G ex μ0 H0 W RB (tst m))
  tf : fr = true → PE X p (TF G ex μ0 H0 W m)
section
variable {G : Wd} {ex : Nat → Value} {μ0 : List Addr} {H0 : Hp} {W : WX} {X : Cx} {p : Expr} {m : M D}
theorem Sd.val (h : SE G ex μ0 H0 W X p m) (he : ∀ whole, isTrue p X.env whole = (do let v ← whole; standAt p.pos; holding [v] (truthy v))) (hb : isBo p = false) : Sd G ex μ0 H0 W X p m false :=
  ⟨h, fun _ => t_val h he, fun z => (by rw [hb] at z; cases z), fun z => nomatch z⟩
theorem Sd.fre (h : PE X p (TF G ex μ0 H0 W m)) (hl : Lists m) (he : ∀ whole, isTrue p X.env whole = (do let v ← whole; standAt p.pos; holding [v] (truthy v))) (hb : isBo p = false) : Sd G ex μ0 H0 W X p m true :=
  ⟨s_ofF h hl, fun _ => t_val (s_ofF h hl) he, fun z => (by rw [hb] at z; cases z), fun _ => h⟩
theorem Sd.bo (h : SE G ex μ0 H0 W X p m) (hw : PW X p (TM G ex μ0 H0 W RB (tst m))) : Sd G ex μ0 H0 W X p m false := ⟨h, fun _ => hw.pt, fun _ => hw, fun z => nomatch z⟩
theorem Sd.tes (h : SE G ex μ0 H0 W X p m) (ht : ST G ex μ0 H0 W X p (tst m)) (hb : isBo p = false) : Sd G ex μ0 H0 W X p m false := ⟨h, fun _ => ht, fun z => (by rw [hb] at z; cases z), fun z => nomatch z⟩
end
section
variable {G : Wd} {ex : Nat → Value} {Γ : Nm} {F : Nat → List D → So → FR} {gl : Nat → Option D} {lv : Nat} {N : List Str}
theorem Ctxt.blk {X : Cx} {sc scope : Scope} {top : Bool} (c : Ctxt G ex Γ F gl lv X N sc top) (s : Shared) (H : Hp) (C : Addr) (cl : List (Str × Addr)) (fp : List Addr) (hle : glbB (relS scope sc) "_law_error" = false) :
    Ctxt G ex Γ F gl lv (X.blk s H scope (compEnvC scope cl C X.env) fp) N (relS scope sc) false where
  K := c.K
  NN := c.NN
  nd := c.nd
  sc := by
    show relabel scope X.env = _
    have e : relabel scope X.env = relS scope X.env.scope := rfl
    rw [e, c.sc]
  calm := c.calm
  room := c.room
  fns := c.fns
  blt := c.blt
  gls := c.gls
  fnt := fun z => nomatch z
  lam := fun _ z => by
    have e : relabel scope X.env = relS scope X.env.scope := rfl
    have z : glbB (relabel scope X.env) "_law_error" = true := z
    rw [e, c.sc, hle] at z; cases z
theorem takes_blk {X : Cx} {scope : Scope} {s : Shared} {H : Hp} {C : Addr} {cl : List (Str × Addr)} {fp : List Addr} : L2N.Takes (X.blk s H scope (compEnvC scope cl C X.env) fp) WF := fun u s' x => by
  obtain ⟨a, B, sI, pins, σ, H', cls, d, e, I, nb, up, sky, na, os, ag, w⟩ := x
  exact w.elim
end
section
variable {G : Wd} {ex : Nat → Value} {Γ : Nm} {F : Nat → List D → So → FR} {gl : Nat → Option D} {lv : Nat} {N : List Str}
theorem cmp_nil (neg : Bool) {μ0 : List Addr} {H0 : Hp} {W : WX} {X : Cx} (hK : X.K = G.K) (hu : X.A.units + 64 < cLine) {n : Nat} {x : Str} {px pos p2 : Pos} (h1 : X.N[n]? = some x) (h2 : Vis X.env.scope x) (h3 : (x == ("__debug__" : Str)) = false) (h4 : (x == ("__classdict__" : Str)) = false) {m : M D}
    (h : ∀ (μ : List Addr) (σ : L2.St) (H : Hp) (Q : VK), TMa G ex μ0 H0 W (Rel G) μ m σ H Q → ∃ a vs xs, σ[n]? = some (some (.ref a)) ∧ SqL G.K H a vs ∧ RelL G μ H vs xs ∧ ∃ b, eqD (.lst xs) (.lst []) = some b ∧ ∀ H', Same H H' → Q (.bl (xor neg b)) H') :
    SE G ex μ0 H0 W X (.Compare (.Name x px) [if neg then .NotEq else .Eq] [.List [] p2] pos) m ∧ ST G ex μ0 H0 W X (.Compare (.Name x px) [if neg then .NotEq else .Eq] [.List [] p2] pos) (tst m) := by
  have hl : PE X (.List [] p2) (tLst tNil) := pe_lst pa_nil
  have gen : ∀ {μ : List Addr} {σ : L2.St} {H : Hp} {Q : VK}, TMa G ex μ0 H0 W (Rel G) μ m σ H Q → ∃ v, σ[n]? = some (some v) ∧ (([] : List V).length ≤ sizeLine ∧ ∀ p, H p = none →
      ∃ d e, Dp X.K (upd H p (.lst [])) v d ∧ Dp X.K (upd H p (.lst [])) (.ref p) e ∧ SeqAt.shaped d = true ∧ SeqAt.shaped e = true ∧ Q (.bl (xor neg (PyData.eqv d e))) (upd H p (.lst []))) := fun {μ σ H Q} z => by
    obtain ⟨a, vs, xs, e1, g1, g2, b, hb, q⟩ := h _ _ _ _ z
    refine ⟨_, e1, Nat.zero_le _, fun p hp => ?_⟩
    obtain ⟨d, e, f1, f2, s1, s2, f3⟩ := eqD_ex hb
    have s := Same.upd (o := .lst []) hp
    have e2' : e = .list [] := by
      simp only [D.py, D.pyL, Option.map_some, Option.some.injEq] at f2
      exact f2.symm
    subst e2'
    simp only [D.py, Option.map_eq_some_iff] at f1
    obtain ⟨l, f1, rfl⟩ := f1
    refine ⟨_, _, ?_, .lst (.of upd_same) .nil, s1, s2, by rw [f3]; exact q _ s⟩
    have h1' : SqL X.K (upd H p (.lst [])) a vs := by
      rw [hK]
      rcases g1 with (z | ⟨o, z⟩) | z
      · exact .inl (.inl (s _ _ z))
      · exact .inl (.inr ⟨o, s _ _ z⟩)
      · exact .inr z
    exact .lst h1' (by rw [hK]; exact RelL.dp _ _ l (RelL.mono (List.prefix_refl _) s.keep _ _ g2) f1)
  cases neg with
  | false =>
    simp only [Bool.false_xor] at gen
    exact ⟨PE.imp (pe_cmpR (op_eqD hu) (pe_var h1 h2 h3 h4) hl (by rfl)) fun σ H Q ⟨μ, x⟩ => gen x, PT.imp (pt_cmpR (op_eqD hu) (pe_var h1 h2 h3 h4) hl (by rfl)) fun σ H Q ⟨μ, x⟩ => gen (TMa.tst x)⟩
  | true =>
    simp only [Bool.true_xor] at gen
    exact ⟨PE.imp (pe_cmpR (op_neD hu) (pe_var h1 h2 h3 h4) hl (by rfl)) fun σ H Q ⟨μ, x⟩ => gen x, PT.imp (pt_cmpR (op_neD hu) (pe_var h1 h2 h3 h4) hl (by rfl)) fun σ H Q ⟨μ, x⟩ => gen (TMa.tst x)⟩
theorem nil_ow {neg : Bool} {n : Nat} {μ0 : List Addr} {H0 : Hp} {W : WX} (μ : List Addr) (σ : L2.St) (H : Hp) (Q : VK) (h : TMa G ex μ0 H0 W (Rel G) μ ((getOw n).bind fun xs => M.of ((eqD (.lst xs) (.lst [])).map fun b => .bl (xor neg b))) σ H Q) :
    ∃ a vs xs, σ[n]? = some (some (.ref a)) ∧ SqL G.K H a vs ∧ RelL G μ H vs xs ∧ ∃ b, eqD (.lst xs) (.lst []) = some b ∧ ∀ H', Same H H' → Q (.bl (xor neg b)) H' := by
  obtain ⟨xs, p, vs, g1, g2, g3, h⟩ := h.ow
  obtain ⟨z, e, q⟩ := h.of
  obtain ⟨b, hb, rfl⟩ := Option.map_eq_some_iff.mp e
  exact ⟨p, vs, xs, g1, .of g2, g3, b, hb, fun H' s => q _ _ s (.bl _)⟩
theorem nil_ce {neg : Bool} {n : Nat} {μ0 : List Addr} {H0 : Hp} {W : WX} (μ : List Addr) (σ : L2.St) (H : Hp) (Q : VK) (h : TMa G ex μ0 H0 W (Rel G) μ ((getSh n).bind fun d => (celM d).bind fun xs => M.of ((eqD (.lst xs) (.lst [])).map fun b => .bl (xor neg b))) σ H Q) :
    ∃ a vs xs, σ[n]? = some (some (.ref a)) ∧ SqL G.K H a vs ∧ RelL G μ H vs xs ∧ ∃ b, eqD (.lst xs) (.lst []) = some b ∧ ∀ H', Same H H' → Q (.bl (xor neg b)) H' := by
  obtain ⟨d, v, g1, g2, h⟩ := h.sh
  obtain ⟨ρ, S, J, h⟩ := h
  have h := post_bind h
  cases d with
  | ob m =>
    cases g2 with
    | ob hm =>
      rename_i p
      unfold celM at h
      dsimp only at h
      cases es : S[m]? with
      | none => rw [es] at h; exact h.elim
      | some cl =>
        rw [es] at h
        cases cl with
        | ins c fs => exact h.elim
        | lst xs =>
          obtain ⟨vs, hp, rv⟩ := J.cells.at_ m p _ hm es
          obtain ⟨z, e, q⟩ := post_of h
          obtain ⟨b, hb, rfl⟩ := Option.map_eq_some_iff.mp e
          exact ⟨p, vs, xs, g1, .of hp, rv, b, hb, fun H' s => q _ _ μ (List.prefix_refl _) s.keep (J.same s) (.bl _)⟩
  | _ => exact h.elim
end
end Pv
end
section
set_option Elab.async false
set_option linter.all false
set_option maxRecDepth 100000
set_option maxHeartbeats 4000000
namespace Pv
open PySem PySem.Spec PyProof.Rows L2
/-- an empty set, as it is laid -/
abbrev set0 (w : World) : Obj := ⟨.type "set", none, .set #[] 0 (.fresh 0 0 (!w.params.followText "set-order")), #[]⟩
section
variable {P : Program} {w : World} {A : Around} {E : Value → Shared → Prop} {s : Shared}
theorem set_of_ints {l : Addr} {vs : Array Value} (ks : List Int) {Q : Value → Shared → Prop} (calm : A.handled = none) (isl : s.heap.IsList l vs) (inta : IntsAre vs.toList ks) (few : ks.length + 1 < scanBound)
    (fin : ∀ (h2 : Heap) (t m : Nat), SetR w h2 s.heap.objs.size (fun j => decide (j ∈ ks)) m → m ≤ ks.length → (∀ b o, s.heap.get? b = some o → h2.get? b = some o) → Q (.ref s.heap.objs.size) { s with heap := h2, toks := t }) :
    wpAny (model P w) A (call (.type "set") [.ref l]) Q E s := by
  have size_ks : vs.size = ks.length := by have z := IntsAre.length inta; rwa [Array.length_toList] at z
  obtain ⟨hd_, tl_, mro_⟩ := F.called_set.mro
  have made_ := F.called_set.made
  have sub_ := F.called_set.sub
  refine wpAny_call (codeAny_of_tree ?_)
  show wpAny _ _ (callAny (.type "set") _) _ _ _
  refine wpAny_pure ⟨Code.quiet_builtin _ (by decide +kernel), codeAny_builtin F.entry_type_call ?_⟩
  rw [Around.under_plain (weight_type_call_type "set" [.ref l] []) rfl]
  have nt_ := F.called_set.notType
  have cc_ := F.called_set.canCreate
  have tc_ := F.typeCall_set_1 (.ref l)
  repeat (any_goals (first | assumption | wp_step))
  refine codeAny_mono (L2.code_set_led1 (.ref l) (E := E) (Q₁ := fun o z => o = .ref s.heap.objs.size ∧ z = { s with heap := s.heap.push (set0 w) }) ⟨rfl, rfl⟩) fun r z hz => ?_
  cases r with
  | error e => exact hz
  | ok f =>
    cases f with
    | ret o =>
      obtain ⟨rfl, rfl⟩ := hz
      have at0 : (s.heap.push (set0 w)).get? s.heap.objs.size = some (set0 w) := Heap.get?_push_size _ rfl
      have ty0 : Shared.TypeIs { s with heap := s.heap.push (set0 w) } (.ref s.heap.objs.size) "set" := ⟨_, at0, rfl⟩
      have li_ := F.called_set.init.lookup
      have bi_ := F.called_set.init.bind (.ref s.heap.objs.size)
      repeat (any_goals (first | assumption | wp_step))
      refine codeAny_mono (codeAny_call_builtin (R := wants (fun v z => v = .none ∧ ∃ h2 t m, z = { s with heap := h2, toks := t } ∧ SetR w h2 s.heap.objs.size (fun j => decide (j ∈ ks)) m ∧ m ≤ ks.length ∧ ∀ b o, s.heap.get? b = some o → h2.get? b = some o) E) F.called_set.init.plain F.entry_set_init (check_set_init_1 ty0 ?_)) fun r2 z2 hz2 => ?_
      · obtain ⟨lo, lget, lcls, ln, ldat⟩ := isl
        obtain ⟨c1, c2, c3, c4⟩ := lo
        simp only at lcls ldat
        subst lcls; subst ldat
        have lget2 : (s.heap.push (set0 w)).get? l = some ⟨.type "list", c2, .seq vs ln, c4⟩ := Heap.get?_push_of_some _ lget
        have s1_ := F.sub_list_set
        have s2_ := F.sub_list_frozenset
        have s3_ : (Value.type "list" == Value.type "dict") = false := by decide
        have isl2 : (s.heap.push (set0 w)).IsList l vs := ⟨_, lget2, rfl, ln, rfl⟩
        unfold Builtin.«set.__init__» noKeywords Builtin.Frozenset.updateFrom
        generalize eit : pyIter = it_
        wp_walk
        subst eit
        refine wpAny_pyIter_list isl2 (wpAny_bind (wpAny_runValue ?_))
        have below : l < s.heap.objs.size := Heap.lt_size lget
        have calm3 : A.in1.in1.in1.handled = none := by simp [calm]
        have other : l ≠ (s.heap.push (set0 w)).objs.size := by rw [Heap.size_push]; exact Nat.ne_of_lt (Nat.lt_succ_of_lt below)
        have out_ : s.heap.objs.size ∉ [(s.heap.push (set0 w)).objs.size, l] := by
          rw [Heap.size_push]
          intro hm
          simp only [List.mem_cons, List.not_mem_nil, or_false] at hm
          rcases hm with z | z
          · exact Nat.ne_of_lt (Nat.lt_succ_self _) z
          · exact Nat.ne_of_gt below z
        have vals_ : ∀ (i : Nat) (v : Value), vs[i]? = some v → ∃ k t, ks[i]? = some k ∧ v = .int k t := fun i v hv => by
          have hi : i < ks.length := by rw [← size_ks]; exact (Array.getElem?_eq_some_iff.mp hv).1
          obtain ⟨t, e⟩ := IntsAre.int_at inta i v (by rw [Array.getElem?_toList]; exact hv)
          exact ⟨ks[i], t, List.getElem?_eq_getElem hi, by rw [e, List.getD_eq_getElem?_getD, List.getElem?_eq_getElem hi] <;> rfl⟩
        refine L2.set_update_ints ((Walks.list calm3 _ l other vs).toS) s.heap.objs.size out_ ks size_ks few vals_ (vs.size - 0) 0 _ (by omega) (Nat.zero_le _) ⟨⟨_, Heap.get?_push_size _ rfl, rfl, rfl⟩, (isl2.push _)⟩ ?first ?last
        case first => exact ⟨0, Nat.le_refl 0, L2.setR_new_at (Heap.get?_push_of_some _ at0)⟩
        case last =>
          intro z m mv mle zS
          obtain ⟨h2, g2, d2, t2, o2⟩ := z
          have eg : g2 = s.gens := mv.gens
          have ed : d2 = s.drawn := mv.drawn
          have eo : o2 = s.os := mv.os
          subst eg; subst ed; subst eo
          show wpAny _ _ _ _ _ _
          refine wpAny_pure ?_
          show wpAny _ _ (ret Value.none) _ _ _
          rw [size_ks] at mle
          refine wpAny_pure ⟨rfl, h2, t2, m, rfl, zS, mle, fun b o e => ?_⟩
          have lb : b < s.heap.objs.size := Heap.lt_size e
          refine mv.heap b o (fun hm => ?_) (Heap.get?_push_of_some _ (Heap.get?_push_of_some _ e))
          simp only [List.mem_cons, List.not_mem_nil, or_false, Heap.size_push] at hm
          rcases hm with z | z
          · exact Nat.ne_of_lt lb z
          · exact Nat.ne_of_lt (Nat.lt_succ_of_lt lb) z
      · cases r2 with
        | error e => exact hz2
        | ok f2 =>
          cases f2 with
          | ret v2 =>
            obtain ⟨rfl, h2, t, m, rfl, zS, mle, kept⟩ := hz2
            repeat (any_goals (first | assumption | wp_step))
            exact fin _ _ _ zS mle kept
          | _ => exact hz2.elim
    | _ => exact hz.elim
end
section
variable {X : Cx} {G : Wd}
/-- set(xs), xs a list of ints -/
def rSetI (K : PySem.W.Frag) (w : World) : List V → Hp → VK → Prop := fun xs H Q => ∃ (l : Addr) (ks : List Int), xs = [V.ref l] ∧ SqL K H l (ks.map V.int) ∧ ks.length < 64 ∧
  ∀ a m, H a = none → m ≤ ks.length → Q (.ref a) (upd H a (SetO w a (fun j => decide (j ∈ ks)) m))
theorem cr_setI (hc : X.calm = true) : CallR X (.type "set") (rSetI X.K X.w) := by
  intro pins s σ H xs us Q I r h
  obtain ⟨l, ks, rfl, hl, hf, q⟩ := h
  rw [Vals.ref1 r]
  obtain ⟨its, rv, pl, hz⟩ := I.list hl
  have hn : H s.heap.objs.size = none := I.hok.fresh (Nat.le_refl _)
  refine set_of_ints (P := X.prog) (w := X.w) ks (I.ok.hd hc) pl.isList (by simpa using rv.ints) (by unfold scanBound; omega) fun h2 t m R le k => ?_
  exact ⟨.ref s.heap.objs.size, upd H s.heap.objs.size (SetO X.w s.heap.objs.size (fun j => decide (j ∈ ks)) m), I.laid (t' := t) k (Nat.le_refl _) (setO_new R), rfl, q _ m hn le⟩
/-- sorted(set), a written list -/
def rSortF (w : World) : List V → Hp → VK → Prop := fun vs H Q => ∃ (a : Addr) (S : Int → Bool) (n : Nat), vs = [V.ref a] ∧ H a = some (SetO w a S n) ∧ n < 64 ∧
  ∀ (ns : List Int) (p : Addr) (o : Obj), ns.Pairwise (· < ·) → (∀ k : Int, k ∈ ns ↔ S k = true) → H p = none → Q (.ref p) (upd H p (.frz o (.lst (ns.map V.int))))
theorem cr_sortF (hc : X.calm = true) : CallR X (.builtin "sorted") (rSortF X.w) := by
  intro pins s σ H vs us Q I r h
  obtain ⟨a, S, n, rfl, ha, h64, q⟩ := h
  refine thn (cr_sortedSet hc pins s σ H [.ref a] us (fun v H1 => ∃ (ns : List Int) (p : Addr), v = .ref p ∧ ns.Pairwise (· < ·) ∧ (∀ k : Int, k ∈ ns ↔ S k = true) ∧ H p = none ∧ H1 = upd H p (.lst (ns.map V.int))) I r ⟨a, S, n, rfl, ha, h64, fun ns p h1 h2 _ h3 => ⟨ns, p, rfl, h1, h2, h3, rfl⟩⟩) fun w s' z => ep_frz z fun v H1 ⟨ns, p, e1, e2, e3, e4, e5⟩ => ?_
  subst e1 e5
  refine ⟨p, _, rfl, upd_same, fun o => ?_⟩
  rw [upd_frz]
  exact q ns p o e2 e3 e4
/-- sorted ints without doubles are told by what they hold -/
theorem sorted_uniq : ∀ {l m : List Int}, l.Pairwise (· < ·) → m.Pairwise (· < ·) → (∀ k, k ∈ l ↔ k ∈ m) → l = m
  | [], [], _, _, _ => rfl
  | [], b :: m, _, _, h => by have := (h b).mpr (List.mem_cons_self ..); cases this
  | a :: l, [], _, _, h => by have := (h a).mp (List.mem_cons_self ..); cases this
  | a :: l, b :: m, hl, hm, h => by
    rw [List.pairwise_cons] at hl hm
    have e : a = b := by
      rcases List.mem_cons.mp ((h a).mp (List.mem_cons_self ..)) with e | e
      · exact e
      · rcases List.mem_cons.mp ((h b).mpr (List.mem_cons_self ..)) with e2 | e2
        · exact e2.symm
        · have := hm.1 a e
          have := hl.1 b e2
          omega
    subst e
    congr 1
    refine sorted_uniq hl.2 hm.2 fun k => ⟨fun hk => ?_, fun hk => ?_⟩
    · rcases List.mem_cons.mp ((h k).mp (List.mem_cons_of_mem _ hk)) with e | e
      · subst e; have := hl.1 _ hk; omega
      · exact e
    · rcases List.mem_cons.mp ((h k).mpr (List.mem_cons_of_mem _ hk)) with e | e
      · subst e; have := hm.1 _ hk; omega
      · exact e
theorem insI_mem (i k : Int) : ∀ l : List Int, k ∈ insI i l ↔ k = i ∨ k ∈ l
  | [] => by simp [insI]
  | j :: r => by
    unfold insI
    split
    · simp
    · split
      · rename_i h1 h2; subst h2; simp
      · rw [List.mem_cons, insI_mem i k r, List.mem_cons]
        constructor
        · rintro (h | h | h)
          · exact .inr (.inl h)
          · exact .inl h
          · exact .inr (.inr h)
        · rintro (h | h | h)
          · exact .inr (.inl h)
          · exact .inl h
          · exact .inr (.inr h)
theorem insI_sorted (i : Int) : ∀ l : List Int, l.Pairwise (· < ·) → (insI i l).Pairwise (· < ·)
  | [], _ => by simp [insI]
  | j :: r, h => by
    have h' := List.pairwise_cons.mp h
    unfold insI
    split
    · rename_i h1
      rw [List.pairwise_cons]
      refine ⟨fun k hk => ?_, h⟩
      rcases List.mem_cons.mp hk with e | e
      · omega
      · have := h'.1 k e; omega
    · split
      · exact h
      · rw [List.pairwise_cons]
        refine ⟨fun k hk => ?_, insI_sorted i r h'.2⟩
        rcases (insI_mem i k r).mp hk with e | e
        · omega
        · exact h'.1 k e
theorem ssI_mem (k : Int) : ∀ l : List Int, k ∈ ssI l ↔ k ∈ l
  | [] => by simp [ssI]
  | a :: l => by
    have := ssI_mem k l
    simp only [ssI, List.foldr_cons] at this ⊢
    rw [insI_mem, this, List.mem_cons]
theorem ssI_sorted : ∀ l : List Int, (ssI l).Pairwise (· < ·)
  | [] => by simp [ssI]
  | a :: l => by
    have := ssI_sorted l
    simp only [ssI, List.foldr_cons] at this ⊢
    exact insI_sorted a _ this
end
end Pv
end
section
set_option Elab.async false
set_option linter.all false
set_option maxRecDepth 100000
set_option maxHeartbeats 4000000
namespace Pv
open PySem PySem.Spec PyProof.Rows L2
section
variable {G : Wd} {ex : Nat → Value} {μ0 : List Addr} {H0 : Hp} {W : WX} {X : Cx} {a : Expr} {ma : M D} {pos : Pos}
theorem bad_noEx {α β : Type} {m : M α} {ρ : Ro} {S : So} {k : β → Ro → So → Prop} {e : Nat → Ro → So → Prop} (h : ((noEx m).bind (fun _ => M.of none) ρ S).post k e) : False := by
  unfold M.bind noEx at h
  cases q : m ρ S with
  | ok a ρ1 S1 => rw [q] at h; exact h
  | ex c ρ1 S1 => rw [q] at h; exact h
  | bad => rw [q] at h; exact h
theorem post_noEx {α β : Type} {m : M α} {f : α → M β} {ρ : Ro} {S : So} {k : β → Ro → So → Prop} {e : Nat → Ro → So → Prop} (h : ((noEx m).bind f ρ S).post k e) : (m.bind f ρ S).post k e := by
  unfold M.bind noEx at h
  unfold M.bind
  cases q : m ρ S with
  | ok a ρ1 S1 => rw [q] at h; exact h
  | ex c ρ1 S1 => rw [q] at h; exact h.elim
  | bad => rw [q] at h; exact h.elim
theorem relL_ints {μ : List Addr} {H : Hp} : ∀ {ds : List D} {l : List Int} {vs : List V}, intsOf ds = some l → RelL G μ H vs ds → vs = l.map V.int
  | [], l, vs, e, r => by cases r; cases e; rfl
  | .int i :: ds, l, vs, e, r => by
    cases r with
    | cons a t =>
      obtain rfl := rel_int a
      simp only [intsOf, Option.map_eq_some_iff] at e
      obtain ⟨l', e, rfl⟩ := e
      rw [relL_ints e t]
      rfl
  | .non :: _, _, _, e, _ => by cases e
  | .bl _ :: _, _, _, e, _ => by cases e
  | .str _ :: _, _, _, e, _ => by cases e
  | .tup _ :: _, _, _, e, _ => by cases e
  | .lst _ :: _, _, _, e, _ => by cases e
  | .ob _ :: _, _, _, e, _ => by cases e
  | .scr _ :: _, _, _, e, _ => by cases e
theorem s_sst (hK : X.K = G.K) (hc : X.calm = true) (hu : X.A.units + 64 < cLine) {p1 p2 p3 : Pos} (hg : Gl X "sorted") (hm : X.mg "sorted" = none) (hg2 : Gl X "set") (hm2 : X.mg "set" = none) (ha : SE G ex μ0 H0 W X a ma) (hst : notStar a = true) :
    SE G ex μ0 H0 W X (.Call (.Name "sorted" p1) [.Call (.Name "set" p2) [a] [] p3] [] pos) ((noEx ma).bind fun x => M.of (sstD x)) := by
  have inner := pe_callTy (p := p2) (pos := p3) (cr_setI hc) hg2 hm2 PyProof.Rows.boot_set (pa_cons ha pa_nil (starEach_cons hst)) (by decide) (by decide +kernel) (starEach_cons hst)
  have outer := pe_callB (p := p1) (pos := pos) (cr_sortF hc) hg hm (by decide +kernel) (pa_cons inner pa_nil) (by decide) (by decide +kernel)
  refine PE.imp outer fun σ H Q ⟨μ, ρ, S, J, h⟩ => ?_
  have h1 : TMa G ex μ0 H0 W (Rel G) μ (ma.bind fun x => M.of (sstD x)) σ H Q := ⟨ρ, S, J, post_noEx h⟩
  refine ⟨μ, (TMa.bind h1).imp fun v H1 ⟨d, μ1, p1, k1, r1, h2⟩ => ?_⟩
  obtain ⟨z, e, q⟩ := h2.of
  cases d with
  | lst xs =>
    simp only [sstD] at e
    split at e
    · rename_i l hl
      split at e
      · rename_i h64
        cases e
        obtain ⟨b, vs, rfl, q1, q2⟩ := rel_lst r1
        obtain rfl := relL_ints hl q2
        refine ⟨b, l, rfl, q1.sq, h64, fun c m hcn hml => ?_⟩
        refine ⟨c, _, m, rfl, upd_same, by omega, fun ns p o h3 h4 h5 => ?_⟩
        have e5 : ns = ssI l := sorted_uniq h3 (ssI_sorted l) fun k => by rw [h4 k, ssI_mem]; simp
        subst e5
        have h5' : p ≠ c := fun z => by subst z; rw [upd_same] at h5; cases h5
        exact q _ _ ((Same.upd hcn).trans (Same.upd h5)) (relLst h5 (RelL.map (fun i => .int i) (ssI l)))
      · cases e
    · cases e
  | _ => cases e
theorem s_sln (hK : X.K = G.K) (hc : X.calm = true) (hu : X.A.units + 64 < cLine) {p1 p2 p3 : Pos} (hg : Gl X "len") (hm : X.mg "len" = none) (hg2 : Gl X "set") (hm2 : X.mg "set" = none) (ha : SE G ex μ0 H0 W X a ma) (hst : notStar a = true) :
    SE G ex μ0 H0 W X (.Call (.Name "len" p1) [.Call (.Name "set" p2) [a] [] p3] [] pos) ((noEx ma).bind fun x => M.of (slnD x)) := ⟨fun pins s σ H Q I x => by
  obtain ⟨μ, ρ, S, J, h⟩ := x
  exact (bad_noEx h).elim⟩
variable {Γ : Nm} {F : Nat → List D → So → FR} {gl : Nat → Option D} {lv : Nat} {N : List Str} {sc : Scope} {top : Bool}
theorem s_bltG (c : Ctxt G ex Γ F gl lv X N sc top) (b : Blt) {px : Pos} {e : Expr} {es : List Expr} {ms : M (List D)} (hg : Gl X b.nm) (hs : SEs G ex μ0 H0 W X (e :: es) ms) (hst : (e :: es).all notStar = true) : SE G ex μ0 H0 W X (.Call (.Name b.nm px) (e :: es) [] pos) (ms.bind fun ds => M.of (bltD b ds)) := by
  have hm : X.mg b.nm = none := c.blt b.nm (by cases b <;> decide +kernel)
  cases b with
  | len => exact s_blt (len_ok c.K) hg hm (by decide +kernel) (by decide) (by decide) hs hst
  | abs => exact s_blt abs_ok hg hm (by decide +kernel) (by decide) (by decide) hs hst
  | max => exact s_blt (max_ok c.calm) hg hm (by decide +kernel) (by decide) (by decide) hs hst
  | min => exact s_blt (min_ok c.calm) hg hm (by decide +kernel) (by decide) (by decide) hs hst
  | all => exact s_blt (all_ok c.calm) hg hm (by decide +kernel) (by decide) (by decide) hs hst
  | any => exact s_blt (any_ok c.calm) hg hm (by decide +kernel) (by decide) (by decide) hs hst
  | sum => exact s_blt (sum_ok c.calm) hg hm (by decide +kernel) (by decide) (by decide) hs hst
  | tuple => exact s_bty (tuple_ok c.K) hg hm (by decide +kernel) (by decide) (by decide) hs hst
  | list => exact s_bty (list_ok c.K) hg hm (by decide +kernel) (by decide) (by decide) hs hst
  | int => exact s_bty int_ok hg hm (by decide +kernel) (by decide) (by decide) hs hst
  | str => exact s_bty str_ok hg hm (by decide +kernel) (by decide) (by decide) hs hst
  | bool => exact s_bty bool_ok hg hm (by decide +kernel) (by decide) (by decide) hs hst
end
end Pv
end
section
set_option Elab.async false
set_option linter.all false
set_option maxRecDepth 100000
set_option maxHeartbeats 4000000
namespace Pv
open PySem PySem.Spec PyProof.Rows L2 HT

theorem rev_pick (xs : List Value) : ((List.range xs.length).filterMap fun (k : Nat) => xs.toArray[(((xs.length : Int) - 1) + (k : Int) * (-1)).toNat]?) = xs.reverse := by
  apply List.ext_getElem?
  intro j
  have key : ∀ n, n ≤ xs.length → ((List.range n).filterMap fun (k : Nat) => xs.toArray[(((xs.length : Int) - 1) + (k : Int) * (-1)).toNat]?) = xs.reverse.take n := by
    intro n
    induction n with
    | zero => intro _; simp
    | succ n ih =>
      intro hn
      rw [List.range_succ, List.filterMap_append, ih (by omega)]
      have e : (((xs.length : Int) - 1) + (n : Int) * (-1)).toNat = xs.length - 1 - n := by omega
      have e2 : xs[xs.length - 1 - n]? = some (xs[xs.length - 1 - n]'(by omega)) := List.getElem?_eq_getElem _
      simp only [List.filterMap_cons, List.filterMap_nil, e, List.getElem?_toArray, e2]
      rw [List.take_succ, List.getElem?_reverse (by omega), e2]
      rfl
  rw [key xs.length (Nat.le_refl _), List.take_of_length_le (by simp)]
section
variable {prog : Program} {w : World} {A : Around} {E : Value → Shared → Prop} {s : Shared}
theorem rev_applied {sl : Addr} {v : Value} {n : Nat} {Q : Int × Int × Nat → Shared → Prop} (hs : s.heap.IsSliceOf sl .none .none v) (pv : IsPart v (some (-1))) (h : Q ((n : Int) - 1, -1, n) s) : wpAny (model prog w) A (Builtin.Slice.sliceApplied (.ref sl) (pure (n : Int))) Q E s := by
  obtain ⟨os, hos, hcs, hds⟩ := id hs
  unfold Builtin.Slice.sliceApplied Builtin.Slice.sliceFields
  refine wpAny_bind (wpAny_bind (wpAny_field hos hds (x := .none) rfl (wpAny_bind (wpAny_field hos hds (x := .none) rfl (wpAny_bind (wpAny_field hos hds (x := v) rfl (wpAny_pure (wpAny_bind (slicePart_ pv ?_)))))))))
  show wpAny _ _ (if ((-1 : Int) == 0) = true then _ else _) _ _ s
  rw [if_neg (by decide)]; refine wpAny_bind (slicePart_none (wpAny_bind (slicePart_none (wpAny_bind (wpAny_pure ?_)))))
  show wpAny _ _ (pure ((n : Int) - 1, (-1 : Int), Builtin.Slice.slicePlaces ((n : Int) - 1) (-1) (-1))) _ _ s
  have e : Builtin.Slice.slicePlaces ((n : Int) - 1) (-1) (-1) = n := by
    unfold Builtin.Slice.slicePlaces
    rw [if_neg (by decide)]
    split
    · have : ((n : Int) - 1 - -1 - 1) / (- -1) + 1 = n := by
        rw [show (- -1 : Int) = 1 by rfl, Int.ediv_one]; omega
      rw [this]; simp
    · have : n = 0 := by omega
      subst this; rfl
  rw [e]; exact wpAny_pure h
theorem getItem_tuple_rev {t sl : Addr} {items : List Value} {v : Value} {Q : Value → Shared → Prop} (ht : IsTup s.heap t items.toArray) (hs : s.heap.IsSliceOf sl .none .none v) (pv : IsPart v (some (-1)))
    (h : Q (.ref s.heap.objs.size) { s with heap := s.heap.push { cls := .type "tuple", data := .seq items.reverse.toArray } }) (hsz : items.length ≤ sizeLine) : wpAny (model prog w) A (getItem (.ref t) (.ref sl)) Q E s := by
  have hz : sizeOk (.seq items.reverse.toArray) := by show items.reverse.toArray.size ≤ sizeLine; simpa using hsz
  obtain ⟨os, hos, hcs, hds⟩ := id hs
  have hTs : s.TypeIs (.ref sl) "slice" := ⟨os, hos, hcs⟩
  unfold getItem; try with_reducible refine wpAny_holding ?_
  first | refine wpAny_bind (wpAny_pure ?_) | skip
  refine wpAny_bind (wpAny_sequenceKey ht.typeIs (by decide) (wpAny_bind (wpAny_callSpecial?_slot (name := Str.ofString "__getitem__") ht.typeIs PyProof.Rows.slot_tuple_getitem (wpAny_call_entry PyProof.Rows.slot_tuple_getitem ht.typeIs entry_tuple_getitem ?_ (args_tuple_getitem _ _)))))
  show wpAny _ _ (Builtin.Tuple.tupleItemsOf (.ref t) >>= _) _ _ s; refine wpAny_bind (tupleItemsOf_ ht (wpAny_bind (wpAny_typeOf hTs ?_)))
  rw [if_pos (by decide)]; refine wpAny_bind (rev_applied (n := items.toArray.size) hs pv ?_)
  have hno : ¬ (((((items.toArray.size : Nat) : Int) - 1 == 0) && (-1 : Int) == 1 && items.toArray.size == items.toArray.size) = true) := by simp
  show wpAny _ _ (if ((((items.toArray.size : Nat) : Int) - 1 == 0) && (-1 : Int) == 1 && items.toArray.size == items.toArray.size) = true then _ else _) _ _ s
  rw [if_neg hno, show ((List.range items.toArray.size).filterMap fun (k : Nat) => items.toArray[(((items.toArray.size : Nat) : Int) - 1 + (k : Int) * -1).toNat]?) = items.reverse from (by simpa using rev_pick items)]
  exact wpAny_bind (m := Builtin.Tuple.tupleExact _) (wpAny_newObj_type (wpAny_pure ⟨_, rfl, wpAny_pure h⟩) hz)
end
theorem vals_app' {xs : List V} {us : List Value} (h : Vals xs us) : ∀ {ys : List V} {ws : List Value}, Vals ys ws → Vals (xs ++ ys) (us ++ ws) := fun {ys ws} k => by
  induction h with
  | nil => exact k
  | cons r _ ih => exact .cons r ih
theorem vals_rev {xs : List V} {us : List Value} (h : Vals xs us) : Vals xs.reverse us.reverse := by
  induction h with
  | nil => exact .nil
  | cons r _ ih => rw [List.reverse_cons, List.reverse_cons]; exact vals_app' ih (.cons r .nil)
section
variable {X : Cx} {e : Expr} {te : TE} {pos p1 p2 p3 : Pos}
/-- t[::-1] -/
def rRev (K : PySem.W.Frag) : V → Hp → VK → Prop := fun x H Q => ∃ a xs, x = .ref a ∧ SqT K H a xs ∧ ∀ p, H p = none → Q (.ref p) (upd H p (.tup xs.reverse))
theorem pe_rev (he : PE X e te) : PE X (.Subscript e (.Slice none none (some (.UnaryOp .USub (.Constant (.int 1) 0 p1) p2)) p3) pos) (tUn (rRev X.K) te) := by
  refine ⟨fun pins s σ H Q I h => ?_⟩
  refine Subscript_ (thn (he.run pins s σ H _ I h) fun v s1 ⟨x, H1, I1, r1, a, xs, ex, hx, q⟩ => ?_)
  subst ex; cases r1
  have hst : PO X (some (.UnaryOp .USub (.Constant (.int 1) 0 p1) p2)) (tPart (tUn (rU fun i => .int (-i)) (tC (.int 1)))) := po_some (pe_un un_neg pe_int)
  refine wpAny_Slice ?_
  rw [evalPart_none]; refine wpAny_pure ?_; refine wpAny_pure ?_
  refine thn (hst.run pins s1 σ H1 (fun o H2 => o = some (-1) ∧ H2 = H1) I1 ⟨1, rfl, -1, rfl, rfl, rfl⟩) fun vs s2 ⟨o, H2, I2, po, eo, eH⟩ => ?_
  subst eo eH
  have I4 : Inv X pins σ H2 { s2 with heap := s2.heap.push { cls := .type "slice", data := .fields #[.none, .none, vs] } } := I2.kept (t' := s2.toks) fun b ob q => Heap.get?_push_of_some _ q
  obtain ⟨its, r, ht, hz⟩ := I4.tuple hx
  show wpAny (model X.prog X.w) X.A (subscriptTail e _ (.ref a) (.ref s2.heap.objs.size)) (EP X pins σ Q) X.xe _
  refine tail_any (ops := [.ref a, .ref s2.heap.objs.size]) ht.typeIs PyProof.Rows.slot_tuple_getitem.lookup ?_ (by with_unfolding_all rfl)
  have hl : its.length = xs.length := r.length.symm
  refine getItem_tuple_rev ht (Heap.IsSliceOf.new ..) po ?_ (by rw [hl]; simpa [hl] using hz)
  refine ⟨V.ref _, _, I4.laid (t' := s2.toks) (o := .tup xs.reverse) (fun b ob q => Heap.get?_push_of_some _ q) (Nat.le_refl _) ?_, rfl, q _ (I4.hok.fresh (Nat.le_refl _))⟩
  exact ⟨by rw [List.length_reverse]; exact hz, _, vals_rev r, IsTup.new _ _⟩
end
end Pv
end
section
set_option Elab.async false
set_option linter.all false
set_option maxRecDepth 100000
set_option maxHeartbeats 4000000
namespace Pv
open PySem PySem.Spec PyProof.Rows L2 HT
theorem meets_rin (r : Addr) (a b i : Int) (t u v ti : Tok) : Meets (Builtin.«range.__contains__» ⟨[.ref r, .int i ti], []⟩) (fun _ R s => s.heap.get? r = some { cls := .type "range", dict := none, data := .fields #[.int a t, .int b u, .int 1 v], slots := #[] } ∧ R (.ok (.ret (.bool (Builtin.Range.rangePlace? a b 1 i).isSome))) s) :=
  .of_wp fun prog w A R s h => by obtain ⟨hp, g, d, tk, os⟩ := s; obtain ⟨hl, h⟩ := h; wp_walk; exact ⟨_, rfl, h⟩
theorem place_some (a b i : Int) : (Builtin.Range.rangePlace? a b 1 i).isSome = (decide (a ≤ i) && decide (i < b)) := by
  unfold Builtin.Range.rangePlace?
  simp only [Int.emod_one]
  by_cases h1 : a ≤ i <;> by_cases h2 : i < b <;> simp [h1, h2]
section
variable {X : Cx} {e : Expr} {te : TE} {pos p p1 p2 p3 : Pos}
def inrV (neg : Bool) (a b i : Int) : Bool := xor neg (decide (a ≤ i) && decide (i < b))
theorem inr_core {neg : Bool} {a b : Int} (hg : Gl X "range") (hm : X.mg "range" = none) (he : PE X e te) {pins : List (Addr × Obj)} {s : Shared} {σ : L2.St} {H : Hp} {K : Value → Shared → Prop} (I : L2.Inv X pins σ H s)
    {R : Int → Hp → Prop} (h : te σ H fun x H1 => ∃ i, x = .int i ∧ R i H1) (hK : ∀ i H1 s', R i H1 → L2.Inv X pins σ H1 s' → K (.bool (inrV neg a b i)) s') :
    wpAny (model X.prog X.w) X.A (eval e X.env) (fun v s1 => wpAny (model X.prog X.w) X.A (eval (.Call (.Name "range" p) [.Constant (.int a) 0 p1, .Constant (.int b) 0 p2] [] p3) X.env) (fun u s2 => wpAny (model X.prog X.w) X.A (compareOp (if neg then .NotIn else .In) v u) K X.xe s2) X.xe s1) X.xe s := by
  have ha : PA X [.Constant (.int a) 0 p1, .Constant (.int b) 0 p2] (tCons (tC (.int a)) (tCons (tC (.int b)) tNil)) := pa_cons pe_int (pa_cons pe_int pa_nil)
  refine thn (he.run pins s σ H _ I h) fun v s1 ⟨x, H1, I1, r1, i, ex, q⟩ => ?_
  subst ex
  obtain ⟨ti, rfl⟩ := r1
  refine Call_ (ld_blt I1 hg hm boot_range (PyProof.Rows.callWith_type1 (thn (ha.run p3 pins s1 σ H1 (fun vs H2 => vs = [.int a, .int b] ∧ H2 = H1) I1 ⟨rfl, rfl⟩) fun us s2 ⟨vs, H2, I2, r2, e1, e2⟩ => ?_) (by rfl) (by rfl)))
  subst e1 e2
  cases r2 with
  | cons r r' =>
    cases r' with
    | cons r' rr =>
      cases rr
      obtain ⟨t, rfl⟩ := r
      obtain ⟨t', rfl⟩ := r'
      refine call_range_2 ?_
      have I3 : Inv X pins σ H2 { s2 with heap := s2.heap.push { cls := .type "range", data := .fields #[.int a t, .int b t', .int 1 s2.toks] }, toks := s2.toks + 1 } := I2.kept fun b o e => Heap.get?_push_of_some _ e
      have hr := IsRange.new s2.heap a b 1 t t' s2.toks
      have hT : ({ s2 with heap := s2.heap.push { cls := .type "range", data := .fields #[.int a t, .int b t', .int 1 s2.toks] }, toks := s2.toks + 1 } : Shared).TypeIs (.ref s2.heap.objs.size) "range" := ⟨_, hr, rfl⟩
      cases neg with
      | false =>
        refine In_slot hT PySem.F.slot_range_contains (call_meets PySem.F.slot_range_contains hT PySem.F.entry_range_contains (PySem.F.args_range_contains_2 _ _) (meets_rin _ a b i t t' s2.toks ti) ⟨hr, ?_⟩)
        refine wpAny_truthy_bool ?_
        have e : (Builtin.Range.rangePlace? a b 1 i).isSome = inrV false a b i := by rw [place_some]; unfold inrV; rw [Bool.false_xor]
        rw [e]; exact hK _ _ _ q I3
      | true =>
        refine NotIn_slot hT PySem.F.slot_range_contains (call_meets PySem.F.slot_range_contains hT PySem.F.entry_range_contains (PySem.F.args_range_contains_2 _ _) (meets_rin _ a b i t t' s2.toks ti) ⟨hr, ?_⟩)
        refine wpAny_truthy_bool ?_
        have e : (!(Builtin.Range.rangePlace? a b 1 i).isSome) = inrV true a b i := by rw [place_some]; unfold inrV; rw [Bool.true_xor]
        rw [e]; exact hK _ _ _ q I3
theorem pe_inr {neg : Bool} {a b : Int} (hg : Gl X "range") (hm : X.mg "range" = none) (he : PE X e te) :
    PE X (.Compare e [if neg then .NotIn else .In] [.Call (.Name "range" p) [.Constant (.int a) 0 p1, .Constant (.int b) 0 p2] [] p3] pos) (fun σ H Q => te σ H fun x H1 => ∃ i, x = .int i ∧ Q (.bl (inrV neg a b i)) H1) := by
  refine ⟨fun pins s σ H Q I h => wpAny_Compare1 (inr_core hg hm he I (R := fun i H1 => Q (.bl (inrV neg a b i)) H1) h fun i H1 s' q I' => ⟨.bl _, H1, I', rfl, q⟩) (by cases neg <;> with_unfolding_all rfl)⟩
theorem pt_inr {neg : Bool} {a b : Int} (hg : Gl X "range") (hm : X.mg "range" = none) (he : PE X e te) :
    PT X (.Compare e [if neg then .NotIn else .In] [.Call (.Name "range" p) [.Constant (.int a) 0 p1, .Constant (.int b) 0 p2] [] p3] pos) (fun σ H Q => te σ H fun x H1 => ∃ i, x = .int i ∧ Q (inrV neg a b i) H1) := by
  refine ⟨fun pins s σ H Q I h => wpAny_isTrue_Compare1 (inr_core hg hm he I (R := fun i H1 => Q (inrV neg a b i) H1) h fun i H1 s' q I' => wpAny_truthy_bool ⟨H1, I', q⟩) (by cases neg <;> with_unfolding_all rfl)⟩
end
end Pv
end
section
set_option Elab.async false
set_option linter.all false
set_option maxRecDepth 100000
set_option maxHeartbeats 4000000
namespace Pv
open PySem PySem.Spec PyProof.Rows L2 HotX

theorem HotAt.to {A : Around} {x : Addr} {h h' : Heap} (hot : HotAt A x h) (k : ∀ o, h.get? x = some o → h'.get? x = some o) : HotAt A x h' := by
  obtain ⟨a, o, vs, b, c⟩ := hot
  exact ⟨a, o, vs, k o b, c⟩
section
variable {prog : Program} {w : World} {A : Around} {E : Value → Shared → Prop} {s : Shared} {x1 : Addr}
/-- StopIteration comes up: all that stood stands -/
theorem stop_hot {α : Type} {Q : α → Shared → Prop} (hot : HotAt A x1 s.heap) (k : ∀ h' e, (∀ b o, s.heap.get? b = some o → h'.get? b = some o) → (∃ o, h'.get? e = some o ∧ o.cls = .type "StopIteration") → E (.ref e) { s with heap := h' }) :
    wpAny (model prog w) A (newExc (.type "StopIteration") [] >>= fun e => (raiseNew e : Sem α)) Q E s := by
  obtain ⟨hh, o1, vs1, h1, d1, c1⟩ := hot
  refine wpAny_bind ?_; simp only [newExc, newTuple]
  refine wpAny_bind (wpAny_newObj_type ?_ (by size_fits)); refine wpAny_bind (m := firstArgMember _ _) (wpAny_of_eq (a := Value.none) (by first | rfl | (simp only [firstArgMember]; rfl)) ?_)
  refine wpAny_newObj_type ?_ (by size_fits); have g1 := Heap.get?_push_of_some { cls := .type "tuple", data := .seq #[] } h1
  refine raiseNew_hot (x1 := x1) ⟨hh, o1, vs1, Heap.get?_push_of_some _ (Heap.get?_push_of_some _ h1), d1, c1⟩ (Nat.ne_of_lt (Heap.lt_size g1)) (Heap.get?_push_size _ rfl) rfl (by first | (simp; done) | (simp; omega) | (simp only [Array.size_append]; simp; omega)) (k _ _ (fun b o e => ?_) ⟨_, Heap.get?_update_self _ (Heap.get?_push_size _ rfl) rfl, rfl⟩)
  rw [Heap.get?_update_other _ _ (Nat.ne_of_gt (Heap.lt_size (Heap.get?_push_of_some _ e)))]; exact Heap.get?_push_of_some _ (Heap.get?_push_of_some _ e)
/-- a list's iterator, asked by a builtin, at its end -/
theorem lend_hot {it l : Addr} {i : Nat} {items} {Q : Value → Shared → Prop} (hot : HotAt A x1 s.heap) (ne : x1 ≠ it) (hit : s.heap.IsListIter it l i) (hl : s.heap.IsList l items) (hx : items[i]? = none)
    (k : ∀ h' e, Heap.ExtBut it s.heap h' → (∃ o, h'.get? e = some o ∧ o.cls = .type "StopIteration") → E (.ref e) { s with heap := h' }) : wpAny (model prog w) A (Builtin.SmallTypes.nextOf (.ref it)) Q E s := by
  obtain ⟨⟨o, ho, hc, hd⟩, ⟨ol, hol, _, nl, hdl⟩⟩ := And.intro hit hl
  unfold Builtin.SmallTypes.nextOf; refine wpAny_bind (wpAny_callSpecial?_slot (name := Str.ofString "__next__") hit.typeIs slot_listiter_next (wpAny_call_entry slot_listiter_next hit.typeIs entry_listiter_next ?_ (args_listiter_next _)))
  show wpAny _ _ (field (.ref it) 0 >>= _) _ _ s; refine wpAny_bind (wpAny_field ho hd (x := .ref l) rfl ?_)
  show wpAny _ _ (if (Value.ref l == Value.none) = true then _ else _) _ _ s; rw [if_neg (show ¬ ((Value.ref l == Value.none) = true) from Bool.false_ne_true)]
  show wpAny _ _ (field (.ref it) 1 >>= _) _ _ s; refine wpAny_bind (wpAny_field ho hd (x := .int i 0) rfl ?_)
  show wpAny _ _ (seqItems? (.ref l) >>= _) _ _ s; refine wpAny_bind (wpAny_seqItems hol hdl ?_); simp only [Int.toNat_natCast, hx]
  refine wpAny_bind (wpAny_rule (wpAny_bind (wpAny_setField ho hd (by simp) ?_)))
  have sb : ∀ f, Heap.ExtBut it s.heap (s.heap.update it f) := fun f => (Heap.SameBut.update s.heap it f).extBut
  exact stop_hot (HotAt.to hot fun o e => sb _ x1 o ne e) fun h' e k1 k2 => k h' e (fun b o n q => k1 b o (sb _ b o n q)) k2
/-- a tuple's iterator at its end -/
theorem tend_hot {it t : Addr} {i : Nat} {items} {Q : Option Value → Shared → Prop} (hot : HotAt A x1 s.heap) (ne : x1 ≠ it) (hit : IsTupIter s.heap it t i) (ht : IsTup s.heap t items) (hx : items[i]? = none)
    (k : ∀ h', Heap.ExtBut it s.heap h' → Q none { s with heap := h' }) : wpAny (model prog w) A (pyNext (.ref it)) Q E s := by
  obtain ⟨⟨o, ho, hc, hd⟩, ⟨ol, hol, _, nl, hdl⟩⟩ := And.intro hit ht
  unfold pyNext; refine wpAny_bind (wpAny_attempt (wpAny_callSpecial?_slot (name := Str.ofString "__next__") hit.typeIs slot_tupleiter_next (wpAny_call_entry slot_tupleiter_next hit.typeIs entry_tupleiter_next ?_ (args_tupleiter_next _))))
  show wpAny _ _ (field (.ref it) 0 >>= _) _ _ s; refine wpAny_bind (wpAny_field ho hd (x := .ref t) rfl ?_)
  show wpAny _ _ (if (Value.ref t == Value.none) = true then _ else _) _ _ s; rw [if_neg (show ¬ ((Value.ref t == Value.none) = true) from Bool.false_ne_true)]
  show wpAny _ _ (field (.ref it) 1 >>= _) _ _ s; refine wpAny_bind (wpAny_field ho hd (x := .int i 0) rfl ?_)
  show wpAny _ _ (seqItems? (.ref t) >>= _) _ _ s; refine wpAny_bind (wpAny_seqItems hol hdl ?_); simp only [Int.toNat_natCast, hx]
  refine wpAny_bind (wpAny_rule (wpAny_bind (wpAny_setField ho hd (by simp) ?_)))
  have sb : ∀ f, Heap.ExtBut it s.heap (s.heap.update it f) := fun f => (Heap.SameBut.update s.heap it f).extBut
  refine stop_hot (HotAt.to hot fun o e => sb _ x1 o ne e) fun h' e k1 ⟨oe, e1, e2⟩ => ?_
  refine wpAny_bind (wpAny_isInstance (T := "StopIteration") (b := true) ⟨oe, e1, e2⟩ isSubtype_stop (wpAny_pure (k _ fun b o n q => k1 b o (sb _ b o n q))))
/-- a, b = t -/
theorem unp_hot {t : Addr} {items : Array Value} {targets : List (Bool × (Value → Sem Unit))} {Q : Unit → Shared → Prop} (hot : HotAt A x1 s.heap) (ht : IsTup s.heap t items) (hn : targets.length = items.size) (hstar : targets.findIdx? (·.1) = none)
    (h : ∀ h', Heap.ExtBut s.heap.objs.size s.heap h' → wpAny (model prog w) A (assignInOrder (targets.map (·.2)) items.toList) Q E { s with heap := h' }) : wpAny (model prog w) A (unpack (.ref t) targets) Q E s := by
  have lt1 : ∀ {b o}, s.heap.get? b = some o → b ≠ s.heap.objs.size := fun e => Nat.ne_of_lt (Heap.lt_size e)
  have hlt : t ≠ s.heap.objs.size := by obtain ⟨o, ho, _⟩ := ht; exact lt1 ho
  have hx1 : x1 ≠ s.heap.objs.size := by obtain ⟨_, o, _, ho, _⟩ := hot; exact lt1 ho
  unfold unpack; rw [hn, hstar]; refine wpAny_bind (wpAny_holding ?_); unfold unpackItems; refine wpAny_bind ?_
  unfold notIterableAtAll; refine wpAny_bind (wpAny_specialOf ht.typeIs slot_tuple_iter.lookup (wpAny_pure ?_)); simp only [Bool.false_eq_true, if_false]
  refine wpAny_bind (wpAny_holding (iter_tuple ht (wpAny_bind (wpAny_holding (draw_tuple hlt items.size 0 _ _ ⟨_, Heap.get?_push_size _ rfl, rfl, rfl⟩ (ht.push _) (by omega) fun h₁ hit₁ hs₁ => ?_)))))
  rw [show List.take items.size (List.drop 0 items.toList) = items.toList by rw [List.drop_zero]; exact List.take_of_length_le (by simp), if_neg (by simp)]
  refine wpAny_bind (wpAny_holding (tend_hot (HotAt.to hot fun o e => hs₁.extBut x1 o hx1 (Heap.get?_push_of_some _ e)) hx1 hit₁ ((ht.push _).extBut hs₁.extBut hlt) (by simp) fun h₂ he₂ => ?_))
  simp only [Option.isSome_none, Bool.false_eq_true, if_false]; exact wpAny_pure (h h₂ fun b o hb e => he₂ b o hb (hs₁.extBut b o hb (Heap.get?_push_of_some _ e)))
/-- zip of two lists at its end -/
theorem zend_hot {z TI TO i1 i2 l1 l2 : Addr} {k1 k2 : Nat} {xs ys : Array Value} {a b : Value} {Q : Option Value → Shared → Prop} (hot : HotAt A x1 s.heap) (n1 : x1 ≠ z) (n2 : x1 ≠ TO) (n3 : x1 ≠ i1) (n4 : x1 ≠ i2) (D : ZipApart z TI TO i1 i2 l1 l2)
    (hz : IsZip s.heap z TI TO .none) (hTI : IsPair s.heap TI (.ref i1) (.ref i2)) (hTO : IsPair s.heap TO a b) (h1 : s.heap.IsListIter i1 l1 k1) (h2 : s.heap.IsListIter i2 l2 k2) (hl1 : s.heap.IsList l1 xs) (hl2 : s.heap.IsList l2 ys) (hend : xs[k1]? = none ∨ ys[k2]? = none)
    (hQ : ∀ h', (∀ c o, c ≠ z → c ≠ TO → c ≠ i1 → c ≠ i2 → s.heap.get? c = some o → h'.get? c = some o) → Q none { s with heap := h' }) : wpAny (model prog w) A (pyNext (.ref z)) Q E s := by
  have hT : s.TypeIs (.ref z) "zip" := ⟨_, hz, rfl⟩
  have last : ∀ (h' : Heap) (e : Addr), (∀ c o, c ≠ z → c ≠ TO → c ≠ i1 → c ≠ i2 → s.heap.get? c = some o → h'.get? c = some o) → (∃ o, h'.get? e = some o ∧ o.cls = .type "StopIteration") →
      wpAny (model prog w) A (isInstance (.ref e) (.type "StopIteration") >>= fun b => if b = true then pure none else throw (.ref e)) Q E { s with heap := h' } := fun h' e hk ⟨o, ho, hc⟩ =>
    wpAny_bind (wpAny_isInstance (T := "StopIteration") (b := true) ⟨o, ho, hc⟩ isSubtype_stop (wpAny_pure (hQ _ hk)))
  unfold pyNext; refine wpAny_bind (wpAny_attempt (wpAny_callSpecial?_slot (name := Str.ofString "__next__") hT F.slot_zip_next (wpAny_call_entry F.slot_zip_next hT F.entry_zip_next ?_ (F.args_zip_next_1 _))))
  show wpAny _ _ (field (.ref z) 2 >>= _) _ _ _; refine wpAny_bind (wpAny_field hz rfl (x := .bool false) rfl ?_); show wpAny _ _ (field (.ref z) 3 >>= _) _ _ _
  refine wpAny_bind (wpAny_field hz rfl (x := .ref TI) rfl (wpAny_bind (wpAny_seqItems hTI rfl ?_))); show wpAny _ _ (Builtin.SmallTypes.ownedTupleIsFree (.ref z) >>= _) _ _ _; refine wpAny_bind ?_
  unfold Builtin.SmallTypes.ownedTupleIsFree; refine wpAny_bind (wpAny_field hz rfl (x := .none) rfl (wpAny_pure ?_)); simp only [if_true]
  refine wpAny_bind (wpAny_rule (wpAny_bind (wpAny_field hz rfl (x := .ref TO) rfl (wpAny_bind (wpAny_setField_rec hz (by simp) fun ha za sa => ?_))))); replace za : IsZip ha z TI TO .ellipsis := za
  refine wpAny_bind ?_; simp only [List.zipIdx_cons, List.zipIdx_nil, List.forIn_cons, List.forIn_nil]
  refine wpAny_bind (wpAny_bind (wpAny_onRaise ?_)); show wpAny _ _ (Builtin.SmallTypes.nextOf (.ref i1) >>= _) _ _ _
  have hota := HotAt.to hot fun o e => sa.extBut x1 o n1 e
  cases hx : xs[k1]? with
  | none =>
    refine wpAny_bind (lend_hot hota n3 (h1.extBut sa.extBut D.i1z) (hl1.extBut sa.extBut D.l1z) hx fun hb e sb ⟨oe, hoe, hce⟩ => ?_)
    have zb : IsZip hb z TI TO .ellipsis := sb _ _ D.i1z.symm za
    have hez : e ≠ z := fun x => by subst x; rw [zb] at hoe; cases hoe; simp at hce
    exact wpAny_setField_rec zb (by simp) fun hd _ sd => last hd e (fun c o c1 _ c3 _ x => sd.extBut _ _ c1 (sb _ _ c3 (sa.extBut _ _ c1 x))) ⟨oe, sd.extBut _ _ hez hoe, hce⟩
  | some x =>
    have hy : ys[k2]? = none := by rcases hend with h | h; (rw [hx] at h; cases h); exact h
    refine wpAny_bind (wpAny_nextOf_list_item (h1.extBut sa.extBut D.i1z) (hl1.extBut sa.extBut D.l1z) hx fun hb h1b sb => wpAny_pure ?_)
    have TOb : IsPair hb TO a b := sb.extBut _ _ D.TOi1 (sa.extBut _ _ D.TOz hTO)
    refine wpAny_bind (wpAny_seqItems TOb rfl (wpAny_bind (wpAny_updateSeq_pair TOb fun hc TOc sc => wpAny_bind (wpAny_letGo (wpAny_pure ?_))))); refine wpAny_bind (wpAny_bind (wpAny_onRaise ?_))
    show wpAny _ _ (Builtin.SmallTypes.nextOf (.ref i2) >>= _) _ _ _
    refine wpAny_bind (lend_hot (HotAt.to hota fun o e => sc.extBut x1 o n2 (sb.extBut x1 o n3 e)) n4 (((h2.extBut sa.extBut D.i2z).extBut sb.extBut D.i12.symm).extBut sc.extBut D.TOi2.symm) (((hl2.extBut sa.extBut D.l2z).extBut sb.extBut D.l2i1).extBut sc.extBut D.l2TO) hy fun hd e sd ⟨oe, hoe, hce⟩ => ?_)
    have zd : IsZip hd z TI TO .ellipsis := sd _ _ D.i2z.symm (sc.extBut _ _ D.TOz.symm (sb.extBut _ _ D.i1z.symm za))
    have hez : e ≠ z := fun x => by subst x; rw [zd] at hoe; cases hoe; simp at hce
    exact wpAny_setField_rec zd (by simp) fun he _ se => last he e (fun c o c1 c2 c3 c4 x => se.extBut _ _ c1 (sd _ _ c4 (sc.extBut _ _ c2 (sb.extBut _ _ c3 (sa.extBut _ _ c1 x))))) ⟨oe, se.extBut _ _ hez hoe, hce⟩
end
end Pv
end
section
set_option Elab.async false
set_option linter.all false
set_option maxRecDepth 100000
set_option maxHeartbeats 4000000
namespace Pv
open PySem PySem.Spec PyProof.Rows L2 HotX

/-- the handled exception stands in every state of the context -/
def HotK (X : Cx) : Prop := ∀ pins σ H s, Inv X pins σ H s → ∃ x1, HotAt X.A x1 s.heap
theorem hotK_of {X : Cx} (h : L2H.HotC X) : HotK X := fun _ _ _ _ I => h.at I
theorem hotK_blk {X : Cx} {pins : List (Addr × Obj)} {σ : L2.St} {H : Hp} {s : Shared} {scope : Scope} {ce : Env} {fp : List Addr} (h : L2H.HotC X) (I : Inv X pins σ H s) (hf : ∀ b ∈ fp, FpOk X pins H b) : HotK (X.blk s H scope ce fp) := fun pins' σ' H' s' I' => by
  obtain ⟨p, ⟨hh, vs, e1, c1⟩, hp⟩ := h
  obtain ⟨g1, g2, g3, g4, g5⟩ := I.pin p (List.mem_append_left _ hp)
  refine ⟨p.1, hh, p.2, vs, I'.base.keep p.1 p.2 g1 g2 (fun hm => ?_) (fun hm => (hf p.1 hm).2.2.2.2.2 p (List.mem_append_left _ hp) rfl), e1, c1⟩
  exact (List.mem_cons.mp (I.stkSub p.1 hm)).elim g3 g4
section
variable {X : Cx} {pos : Pos}
/-- (a, b, ..) = a tuple -/
theorem pg_tupH {es : List Expr} {k : Nat} {t : TGs} {n : Nat} (hc : HotK X) (h : PGs X es t) (hn : (assignEach es X.env).length = n := by rfl) (hst : (assignEach es X.env).findIdx? (·.1) = none := by rfl) : PG X (.Tuple es k pos) (gTup X.K n t) := by
  refine ⟨fun pins s σ H v u Q I r ⟨a, xs, e1, hq, hl, hw⟩ => ?_⟩
  subst e1; cases r
  obtain ⟨x1, hot⟩ := hc _ _ _ _ I
  obtain ⟨its, rv, ht, hz⟩ := I.tuple hq
  rw [assign_Tuple]
  refine wpAny_bind (wpAny_standAt (unp_hot hot ht (by simp [hn, ← hl, rv.length]) hst fun h' hx => ?_))
  exact h.run pins _ σ H xs _ Q (I.kept (t' := s.toks) fun b o e => hx b o (Nat.ne_of_lt (Heap.lt_size e)) e) (by simpa using rv) hw

/-- where zip's parts stand, ahead of turn i -/
def ZAt (a b z TI TO i1 i2 : Addr) (i : Nat) (h : Heap) : Prop := IsZip h z TI TO .none ∧ IsPair h TI (.ref i1) (.ref i2) ∧ (∃ x y, IsPair h TO x y) ∧ h.IsListIter i1 a i ∧ h.IsListIter i2 b i
theorem ZAt.obj {a b z TI TO i1 i2 : Addr} {i : Nat} {h : Heap} (st : ZAt a b z TI TO i1 i2 i h) : ∀ c ∈ [z, TI, TO, i1, i2], ∃ o, h.get? c = some o ∧ ∀ v, o.data ≠ .cell v := fun c hc => by
  obtain ⟨hz, hTI, ⟨x, y, hTO⟩, ⟨o1, e1, _, d1⟩, ⟨o2, e2, _, d2⟩⟩ := st
  simp only [List.mem_cons, List.not_mem_nil, or_false] at hc
  rcases hc with rfl | rfl | rfl | rfl | rfl
  · exact ⟨_, hz, fun v => by simp⟩
  · exact ⟨_, hTI, fun v => by simp⟩
  · exact ⟨_, hTO, fun v => by simp⟩
  · exact ⟨o1, e1, fun v => by rw [d1]; simp⟩
  · exact ⟨o2, e2, fun v => by rw [d2]; simp⟩
theorem ZAt.keep {a b z TI TO i1 i2 : Addr} {i : Nat} {h h' : Heap} (st : ZAt a b z TI TO i1 i2 i h) (k : ∀ c ∈ [z, TI, TO, i1, i2], ∀ o, h.get? c = some o → h'.get? c = some o) : ZAt a b z TI TO i1 i2 i h' := by
  obtain ⟨hz, hTI, ⟨x, y, hTO⟩, h1, h2⟩ := st
  exact ⟨k z (by simp) _ hz, k TI (by simp) _ hTI, ⟨x, y, k TO (by simp) _ hTO⟩, h1.at (k i1 (by simp)), h2.at (k i2 (by simp))⟩
theorem ZAt.lt {a b z TI TO i1 i2 : Addr} {i : Nat} {h : Heap} (st : ZAt a b z TI TO i1 i2 i h) : ∀ c ∈ [z, TI, TO, i1, i2], c < h.objs.size := fun c hc => let ⟨_, e, _⟩ := st.obj c hc; Heap.lt_size e
theorem hot_ne {A : Around} {x1 c : Addr} {h : Heap} {o : Obj} (hot : HotAt A x1 h) (e : h.get? c = some o) (n : ∀ vs, o.data = .fields vs → vs[2]? ≠ some .none) : x1 ≠ c := fun z => by
  obtain ⟨_, o', vs, e', d, f⟩ := hot
  rw [z, e] at e'; cases e'
  exact n vs d f
variable {a b z TI TO i1 i2 : Addr} {pins : List (Addr × Obj)} {σ : L2.St} {H : Hp} {s : Shared} {E : Value → Shared → Prop} {i : Nat} {elts : List Expr} {kk : Nat} {tpos : Pos}
theorem z_item (D : ZipApart z TI TO i1 i2 a b) (I : Inv X pins σ H s) (hf : ∀ b ∈ [z, TI, TO, i1, i2], FpOk X pins H b) (st : ZAt a b z TI TO i1 i2 i s.heap) (hg : (Itz X.K a b).go i H) :
    wpAny (model X.prog X.w) X.A (pyNext (.ref z)) (fun r s1 => ∃ u, r = some u ∧ wpAny (model X.prog X.w) X.A (letOwnedTupleGo (.Tuple elts kk tpos) (.ref z) u) (fun _ s2 => ∃ x H', Inv X pins σ H' s2 ∧ RelV x u ∧ (Itz X.K a b).yld i H x H' ∧ ZAt a b z TI TO i1 i2 (i + 1) s2.heap ∧ ∀ b ∈ [z, TI, TO, i1, i2], H' b = none) E s1) E s := by
  obtain ⟨⟨hz, hTI, ⟨x0, y0, hTO⟩, h1, h2⟩, hlt⟩ := And.intro st st.lt
  obtain ⟨xs, ys, x, y, hqx, hqy, hx, hy⟩ := hg
  obtain ⟨⟨its, rv, p, _⟩, ⟨its2, rv2, p2, _⟩⟩ := And.intro (I.list hqx) (I.list hqy)
  obtain ⟨⟨u, hu, ru⟩, ⟨u2, hu2, ru2⟩⟩ := And.intro (rv.get hx) (rv2.get hy)
  refine wpAny_pyNext_zip_item D hz hTI hTO h1 h2 p.isList p2.isList (x := u) (y := u2) (by simpa using hu) (by simpa using hu2) fun ha za TOa h1a h2a hT hsz hk => ⟨_, rfl, wpAny_letOwnedTupleGo_zip (s := { s with heap := ha }) za fun hb zb sb => ?_⟩
  have nz : ∀ c ∈ [z, TI, TO, i1, i2], s.heap.objs.size ≠ c := fun c hc => Nat.ne_of_gt (hlt c hc)
  have hT2 : hb.get? s.heap.objs.size = some { cls := .type "tuple", data := .seq #[u, u2] } := (sb.2 _ (nz z (by simp))).trans hT
  have new : ObjOk X.prog X.w (upd H s.heap.objs.size (.tup [x, y])) hb s.heap.objs.size (.tup [x, y]) := ⟨by show 2 ≤ sizeLine; decide, [u, u2], .cons ru (.cons ru2 .nil), ⟨_, hT2, rfl, _, rfl⟩⟩
  have I1 : Inv X pins σ (upd H s.heap.objs.size (.tup [x, y])) { s with heap := hb } := I.turnedNew (t' := s.toks) (ch := [z, TI, TO, i1, i2]) (fun c o hb' q => by
    simp only [List.mem_cons, List.not_mem_nil, or_false, not_or] at hb'
    exact (sb.2 c hb'.1).trans (hk c o hb'.1 hb'.2.2.1 hb'.2.2.2.1 hb'.2.2.2.2 q)) hf (Nat.le_refl _) new
  refine ⟨.ref s.heap.objs.size, _, I1, rfl, ⟨_, x, y, rfl, I.hok.fresh (Nat.le_refl _), rfl, fun l hl => by rw [I.list_inj hl hqx]; exact hx, fun l hl => by rw [I.list_inj hl hqy]; exact hy⟩, ⟨zb, (sb.2 _ D.TIz).trans (hk _ _ D.TIz D.TITO D.TIi1 D.TIi2 hTI), ⟨u, u2, (sb.2 _ D.TOz).trans TOa⟩, h1a.at fun o q => (sb.2 _ D.i1z).trans q, h2a.at fun o q => (sb.2 _ D.i2z).trans q⟩, fun c hc => ?_⟩
  rw [upd_ne (nz c hc).symm]; exact (hf c hc).1
theorem z_done (D : ZipApart z TI TO i1 i2 a b) (hc : HotK X) (I : Inv X pins σ H s) (hf : ∀ b ∈ [z, TI, TO, i1, i2], FpOk X pins H b) (st : ZAt a b z TI TO i1 i2 i s.heap) (hg : (Itz X.K a b).stop i H) : wpAny (model X.prog X.w) X.A (pyNext (.ref z)) (fun r s1 => r = none ∧ Inv X pins σ H s1) E s := by
  obtain ⟨hz, hTI, ⟨x0, y0, hTO⟩, h1, h2⟩ := st
  obtain ⟨xs, ys, hqx, hqy, hend⟩ := hg
  obtain ⟨⟨its, rv, p, _⟩, ⟨its2, rv2, p2, _⟩⟩ := And.intro (I.list hqx) (I.list hqy)
  obtain ⟨l1, l2⟩ := And.intro rv.length rv2.length
  obtain ⟨x1, hot⟩ := hc _ _ _ _ I
  have he : its.toArray[i]? = none ∨ its2.toArray[i]? = none := by
    rcases hend with q | q
    · exact .inl (by simp; omega)
    · exact .inr (by simp; omega)
  obtain ⟨⟨o1, q1, _, d1⟩, ⟨o2, q2, _, d2⟩⟩ := And.intro h1 h2
  refine zend_hot hot (hot_ne hot hz fun vs e => by cases e; simp) (hot_ne hot hTO fun vs e => by cases e) (hot_ne hot q1 fun vs e => by rw [d1] at e; cases e; simp) (hot_ne hot q2 fun vs e => by rw [d2] at e; cases e; simp) D hz hTI hTO h1 h2 p.isList p2.isList he fun h' hk => ⟨rfl, I.turnedL (t' := s.toks) (ch := [z, TI, TO, i1, i2]) (fun c o hb' q => ?_) hf⟩
  simp only [List.mem_cons, List.not_mem_nil, or_false, not_or] at hb'
  exact hk c o hb'.1 hb'.2.2.1 hb'.2.2.2.1 hb'.2.2.2.2 q
end
end Pv
end
section
set_option Elab.async false
set_option linter.all false
set_option maxRecDepth 100000
set_option maxHeartbeats 4000000
namespace Pv
open PySem PySem.Spec PyProof.Rows L2 HotX
section
variable {X : Cx}
/-- zip(xs, ys), then its iterator -/
theorem zip_it {e e2 : Expr} {ta : TA} {p pos : Pos} {pins : List (Addr × Obj)} {σ : L2.St} {H : Hp} {s : Shared} (hg : Gl X "zip") (hm : X.mg "zip" = none) (ha : PA X [e, e2] ta) (hs : starEach [e, e2] X.env = (false, eval e X.env) :: starEach [e2] X.env) (hpl : (backTo pos (starEach [e2] X.env)).any (·.1) = false)
    (I : Inv X pins σ H s) {R : Addr → Addr → Hp → Prop} (h : ta σ H fun vs H1 => ∃ a b xs ys, vs = [.ref a, .ref b] ∧ SqL X.K H1 a xs ∧ SqL X.K H1 b ys ∧ R a b H1) :
    wpAny (model X.prog X.w) X.A (eval (.Call (.Name "zip" p) [e, e2] [] pos) X.env) (fun v s1 => wpAny (model X.prog X.w) X.A (pyIter v) (fun itv s2 => ∃ a b z TI TO i1 i2 H1, itv = .ref z ∧ Inv X pins σ H1 s2 ∧ ZipApart z TI TO i1 i2 a b ∧ ZAt a b z TI TO i1 i2 0 s2.heap ∧ (∀ c ∈ [z, TI, TO, i1, i2], FpOk X pins H1 c) ∧ R a b H1) X.xe s1) X.xe s := by
  refine Call_ (ld_blt I hg hm PyProof.Rows.boot_zip (PyProof.Rows.callWith_type1 (thn (ha.run pos pins s σ H _ I h) fun us s1 ⟨vs, H1, I1, r1, a, b, xs, ys, ex, hqx, hqy, q⟩ => ?_) hs hpl))
  subst ex
  cases r1 with
  | cons r rr =>
    cases rr with
    | cons r' rr =>
      cases rr; cases r; cases r'
      obtain ⟨⟨its, rv, p1, _⟩, ⟨its2, rv2, p2, _⟩⟩ := And.intro (I1.list hqx) (I1.list hqy)
      refine call_zip_2 p1.isList p2.isList fun h' hz hTI hTO h1 h2 hsz hk => wpAny_pyIter_zip hz ?_
      refine ⟨a, b, _, _, _, _, _, H1, rfl, I1.kept (t' := s1.toks) hk, PySem.W.ktu_apart s1.heap.objs.size a b p1.lt p2.lt, ⟨hz, hTI, ⟨_, _, hTO⟩, h1, h2⟩, fun c hc => ?_, q⟩
      have hle : s1.heap.objs.size ≤ c := by
        simp only [List.mem_cons, List.not_mem_nil, or_false] at hc
        rcases hc with z | z | z | z | z <;> rw [z] <;> omega
      exact I1.fpOk hle (I1.hok.fresh hle)
/-- what the comprehension asks: D the new list, xs ys the two lists -/
def ZR (X : Cx) (g : TG) (tt : TT) (te : TE) (vs : List Nat) (σ : L2.St) (Q : VK) (a b : Addr) (H1 : Hp) : Prop := ∀ D, H1 D = none → ∃ W : Nat → Nat → Hp → Prop, (∃ m, W 0 m (upd H1 D (.lst []))) ∧ ∀ i m H, W i m H →
  ((Itz X.K a b).stop i H ∧ Q (.ref D) H) ∨ ((Itz X.K a b).go i H ∧ ∃ Nx : Hp → Prop, (∀ H', Nx H' → ∃ m', m' < m ∧ W (i + 1) m' H') ∧ ∀ x H', (Itz X.K a b).yld i H x H' → g x (wipe σ vs) H' fun σ2 H2 => wipe σ2 vs = wipe σ vs ∧ tt σ2 H2 fun b H3 =>
    if b = true then te σ2 H3 fun y H4 => ∃ acc, H4 D = some (.lst acc) ∧ acc.length < sizeLine ∧ Nx (upd H4 D (.lst (acc ++ [y]))) else Nx H3)
def tLz (X : Cx) (ta : TA) (g : TG) (tt : TT) (te : TE) (vs : List Nat) : TE := fun σ H Q => ta σ H fun us H1 => ∃ a b xs ys, us = [.ref a, .ref b] ∧ SqL X.K H1 a xs ∧ SqL X.K H1 b ys ∧ ZR X g tt te vs σ Q a b H1
theorem pe_lcz {elt e e2 : Expr} {elts ifs : List Expr} {kk : Nat} {tpos p ipos pos : Pos} {scope : Scope} {own : List (Str × Nat)} {ta : TA} {g : TG} {tt : TT} {te : TE} (hc : L2H.HotC X) (hN : X.N.Nodup) (ok : BlkOk X.N X.env.scope scope own)
    (hgz : Gl X "zip") (hmz : X.mg "zip" = none) (ha : PA X [e, e2] ta) (hse : starEach [e, e2] X.env = (false, eval e X.env) :: starEach [e2] X.env) (hpl : (backTo ipos (starEach [e2] X.env)).any (·.1) = false)
    (hg : ∀ (s : Shared) (H : Hp) (C : Addr) (cl : List (Str × Addr)) (fp : List Addr), HotK (X.blk s H scope (compEnvC scope cl C X.env) fp) → PG (X.blk s H scope (compEnvC scope cl C X.env) fp) (.Tuple elts kk tpos) g)
    (ht : ∀ (s : Shared) (H : Hp) (C : Addr) (cl : List (Str × Addr)) (fp : List Addr), PTs (X.blk s H scope (compEnvC scope cl C X.env) fp) ifs tt) (he : ∀ (s : Shared) (H : Hp) (C : Addr) (cl : List (Str × Addr)) (fp : List Addr), PE (X.blk s H scope (compEnvC scope cl C X.env) fp) elt te)
    (hs : ∀ x, foldedSetIterable (.Call (.Name "zip" p) [e, e2] [] ipos) X.env x = pure x := by intro _; rfl) :
    PE X (.ListComp elt [⟨.Tuple elts kk tpos, .Call (.Name "zip" p) [e, e2] [] ipos, ifs, 0⟩] scope pos) (tLz X ta g tt te (own.map (·.2))) := by
  refine ⟨fun pins s σ H Q I h => ?_⟩
  rw [eval_ListComp]
  have hfree : ∀ y ∈ scope.names, y.2 = .free → ∃ c, X.env.cells.lookup y.1 = some c := fun y hy e => (ok.free y hy e).elim (fun k => I.ok.has _ (.inl k)) fun k => I.ok.has _ (.inr k)
  refine wpAny_comprehension_free (use := none) rfl hs (closure_ok hfree) ok.kind (fun y hy e => by rw [ok.uniq y hy, e]) (thn (zip_it (R := ZR X g tt te (own.map fun x : Str × Nat => x.2) σ Q) hgz hmz ha hse hpl I h) fun xv s1 hx => thn hx fun itv s2 ⟨a, b, z, TI, TO, i1, i2, H2, e', I2, DZ, st2, f2, q⟩ => ?_)
  subst e'
  refine wpAny_newObj_type (newEnv_comp ?_) (by show 0 ≤ sizeLine; decide)
  generalize hD : s2.heap.objs.size = D
  obtain ⟨hDn, fp, hfp⟩ : H2 D = none ∧ ∃ fp, fp = [z, TI, TO, i1, i2] := ⟨I2.hok.fresh (Nat.le_of_eq hD), _, rfl⟩
  obtain ⟨W, ⟨m0, w0⟩, turn⟩ := q D hDn
  generalize hs3 : ({ s2 with heap := s2.heap.push { cls := .type "list", data := .seq ([] : List Value).toArray } } : Shared) = s3
  have h3 : s3.heap = s2.heap.push { cls := .type "list", data := .seq ([] : List Value).toArray } := by rw [← hs3]
  have I3 : Inv X pins σ (upd H2 D (.lst [])) s3 := by
    rw [← hs3]; refine I2.laid (t' := s2.toks) (fun b o e => Heap.get?_push_of_some _ e) (Nat.le_of_eq hD) ⟨Nat.zero_le _, [], 0, .nil, ?_⟩
    rw [← hD]; exact Heap.get?_push_size _ rfl
  have f3 : ∀ b ∈ fp, FpOk X pins (upd H2 D (.lst [])) b ∧ b < s3.heap.objs.size := fun b hb => by
    rw [hfp] at hb; have hlt := st2.lt b hb
    exact ⟨⟨by rw [upd_ne (by rw [← hD]; exact Nat.ne_of_lt hlt)]; exact (f2 b hb).1, (f2 b hb).2⟩, by rw [h3, Heap.size_push]; exact Nat.lt_succ_of_lt hlt⟩
  have st3 : ZAt a b z TI TO i1 i2 0 s3.heap := st2.keep fun b _ o e => by rw [h3]; exact Heap.get?_push_of_some _ e
  have I4 := block_start I3 ok hN f3
  obtain ⟨pg, pt, pe⟩ := And.intro (hg s3 (upd H2 D (.lst [])) s3.heap.objs.size (cellsFrom (s3.heap.objs.size + 1) scope.names (cloFrom X.env.cells scope.names [])) fp (hotK_blk hc I3 fun b hb => (f3 b hb).1)) (And.intro (ht s3 (upd H2 D (.lst [])) s3.heap.objs.size (cellsFrom (s3.heap.objs.size + 1) scope.names (cloFrom X.env.cells scope.names [])) fp) (he s3 (upd H2 D (.lst [])) s3.heap.objs.size (cellsFrom (s3.heap.objs.size + 1) scope.names (cloFrom X.env.cells scope.names [])) fp))
  show codeAny _ _ (.compStart (.ListComp elt [⟨.Tuple elts kk tpos, .Call (.Name "zip" p) [e, e2] [] ipos, ifs, 0⟩] scope pos) 0 (.ref z) (.ref D) (compEnvC scope (cellsFrom (s3.heap.objs.size + 1) scope.names (cloFrom X.env.cells scope.names [])) s3.heap.objs.size X.env)) (compPost (model X.prog X.w) X.A X.xe none (EP X pins σ Q) (.ref D) s3.heap.objs.size) { s3 with heap := pushCells (s3.heap.push { cls := .type "dict", data := .dict #[] }) scope.names }
  have HK : HotK (X.blk s3 (upd H2 D (.lst [])) scope (compEnvC scope (cellsFrom (s3.heap.objs.size + 1) scope.names (cloFrom X.env.cells scope.names [])) s3.heap.objs.size X.env) fp) := hotK_blk hc I3 fun b hb => (f3 b hb).1
  generalize hce : compEnvC scope (cellsFrom (s3.heap.objs.size + 1) scope.names (cloFrom X.env.cells scope.names [])) s3.heap.objs.size X.env = ce at I4 pg pt pe HK ⊢
  have cL : ce.locals = s3.heap.objs.size := by subst hce; rfl
  generalize hH3 : upd H2 D (.lst []) = H3 at I3 I4 pg pt pe w0 f3 HK
  have nfp : ∀ b ∈ fp, H3 b = none := fun b hb => (f3 b hb).1.1
  generalize hs4 : ({ s3 with heap := pushCells (s3.heap.push { cls := .type "dict", data := .dict #[] }) scope.names } : Shared) = s4 at I4 ⊢
  have st4 : ZAt a b z TI TO i1 i2 0 s4.heap := st3.keep fun b _ o e => by rw [← hs4]; exact pushCells_keeps _ _ _ _ (Heap.get?_push_of_some _ e)
  have stat : ∀ {σ' : L2.St} {H' : Hp} {s' : Shared}, Inv (X.blk s3 H3 scope ce fp) [] σ' H' s' → (∀ b ∈ fp, H' b = none) → ∀ b ∈ fp, FpOk (X.blk s3 H3 scope ce fp) [] H' b := fun {σ' H' s'} I' hn b hb => ⟨hn b hb, (I'.ok.exf b hb).1, I'.ok.exfs b hb, .inl hb, fun x c e => (I'.ok.exf b hb).2 x c e, fun p hp => nomatch (show p ∈ ([] : List (Addr × Obj)) from hp)⟩
  have loop : codeAny (model X.prog X.w) X.A (.compLoop (.ListComp elt [⟨.Tuple elts kk tpos, .Call (.Name "zip" p) [e, e2] [] ipos, ifs, 0⟩] scope pos) 0 (.ref z) (.ref D) ce) (compPost (model X.prog X.w) X.A X.xe none (EP X pins σ Q) (.ref D) s3.heap.objs.size) s4 := by
    refine compLoop_any (fun n s' => ∃ i H', Inv (X.blk s3 H3 scope ce fp) [] (wipe σ (own.map (·.2))) H' s' ∧ ZAt a b z TI TO i1 i2 i s'.heap ∧ (∀ b ∈ fp, H' b = none) ∧ W i n H') ?_ m0 ⟨0, H3, I4, st4, nfp, w0⟩
    rintro n s5 ⟨i, H5, I5, st5, n5, w5⟩
    have ff5 : ∀ c ∈ [z, TI, TO, i1, i2], FpOk (X.blk s3 H3 scope ce fp) [] H5 c := fun c hc => stat I5 n5 c (by rw [hfp]; exact hc)
    rcases turn i n H5 w5 with ⟨stop, qq⟩ | ⟨go, Nx, hNx, step⟩
    · refine thnF (z_done (X := X.blk s3 H3 scope ce fp) (E := fun _ _ => False) DZ HK I5 ff5 st5 stop) fun r s6 ⟨hr, I6⟩ => ?_
      subst hr
      have I7 : Inv X pins σ H5 s6 := I3.call' (ch := fp) I6.os I6.base I6.hok I6.bare fun b hb => ⟨(f3 b hb).1.2.2.2.1, (f3 b hb).1.2.1, (f3 b hb).1.2.2.2.2.1, (f3 b hb).1.2.2.2.2.2⟩
      have nC : H5 s3.heap.objs.size = none := by rw [← cL]; exact I6.free
      obtain ⟨m, hn, _⟩ := I6.loc
      have hn : s6.heap.Ns ce.locals m := hn
      rw [cL] at hn
      obtain ⟨g0, g1, g2, g3, g4, g5⟩ := I3.fpOk (Nat.le_refl _) nC
      exact ⟨m, hn, fun h'' sb => ⟨.ref D, H5, I7.turned (t' := s6.toks) (fun b o hb e => (sb.2 b hb).trans e) g0 g1 g3 g4 g5, rfl, qq⟩⟩
    · refine thnF (z_item (X := X.blk s3 H3 scope ce fp) (elts := elts) (kk := kk) (tpos := tpos) (E := fun _ _ => False) DZ I5 ff5 st5 go) fun r s6 ⟨u, hr, h6⟩ => ?_
      subst hr
      refine thnF h6 fun _ s7 ⟨x, H7, I7, r7, y7, st7, n7⟩ => ?_
      have n7 : ∀ b ∈ fp, H7 b = none := by rw [hfp]; exact n7
      have ob7 : ∀ b ∈ fp, ∃ o, s7.heap.get? b = some o ∧ ∀ v, o.data ≠ .cell v := by rw [hfp]; exact st7.obj
      refine thnF (pg.run _ s7 _ H7 x u _ (I7.pinned (stat I7 n7) ob7) r7 (step x H7 y7)) fun _ s8 ⟨σ8, H8, I8, hw8, q8⟩ => thnF (pt.run _ s8 σ8 H8 _ I8 q8) fun bb s9 ⟨H9, I9, q9⟩ => ?_
      have fin : ∀ {s' : Shared} {H' : Hp}, Inv (X.blk s3 H3 scope ce fp) ([] ++ pinsAt fp s7.heap) σ8 H' s' → Nx H' → ∃ m, m < n ∧ ∃ i H', Inv (X.blk s3 H3 scope ce fp) [] (wipe σ (own.map (·.2))) H' s' ∧ ZAt a b z TI TO i1 i2 i s'.heap ∧ (∀ b ∈ fp, H' b = none) ∧ W i m H' := fun {s' H'} I' nx => by
        obtain ⟨m', hm, w'⟩ := hNx H' nx
        have pin' : ∀ b ∈ fp, ∀ o, s7.heap.get? b = some o → s'.heap.get? b = some o ∧ H' b = none := fun b hb o e => let zz := I'.pin (b, o) (List.mem_append_right _ (List.mem_append_right _ (mem_pinsAt hb e))); ⟨zz.1, zz.2.1⟩
        refine ⟨m', hm, i + 1, H', (I'.unpinned (pins := [])).weak (by rw [← hw8, wipe_length]) (fun j v e => by rw [← hw8] at e; exact (wipe_some e).1), st7.keep fun c hc o e => (pin' c (by rw [hfp]; exact hc) o e).1, fun b hb => ?_, w'⟩
        obtain ⟨o, e, _⟩ := ob7 b hb
        exact (pin' b hb o e).2
      cases bb with
      | false => simp only [Bool.false_eq_true, if_false] at q9 ⊢; exact fin I9 q9
      | true =>
        simp only [if_true] at q9 ⊢
        exact thnF (pe.run _ s9 σ8 H9 _ I9 q9) fun zv s10 ⟨yv, H10, I10, r10, acc, hD10, hz10, nx⟩ => app_ok (X := X.blk s3 H3 scope ce fp) I10 hD10 hz10 r10 fun s11 I11 => fin I11 nx
  exact codeAny_compStart_list loop (wpAny_pyIter_zip st4.1 loop)
end
end Pv
end
section
set_option Elab.async false
set_option linter.all false
set_option maxRecDepth 100000
set_option maxHeartbeats 4000000
namespace Pv
open PySem PySem.Spec PyProof.Rows L2 HotX

theorem pickW_snoc : ∀ (ws : List Str) (bs : List Bool) (i : Nat) (w : Str) (b : Bool), ws[i]? = some w → bs[i]? = some b → pickW (ws.take (i + 1)) (bs.take (i + 1)) = pickW (ws.take i) (bs.take i) ++ if b then [w] else []
  | [], _, _, _, _, h, _ => by simp at h
  | _ :: _, [], _, _, _, _, h => by simp at h
  | w :: ws, b :: bs, 0, w', b', h1, h2 => by
    simp at h1 h2; subst h1 h2
    cases b <;> simp [pickW]
  | w :: ws, b :: bs, i + 1, w', b', h1, h2 => by
    have ih := pickW_snoc ws bs i w' b' (by simpa using h1) (by simpa using h2)
    show pickW (w :: ws.take (i + 1)) (b :: bs.take (i + 1)) = pickW (w :: ws.take i) (b :: bs.take i) ++ _
    unfold pickW
    rw [ih]
    cases b <;> simp
theorem pickW_len : ∀ (ws : List Str) (bs : List Bool), (pickW ws bs).length ≤ ws.length
  | [], _ => by simp [pickW]
  | _ :: _, [] => by simp [pickW]
  | w :: ws, b :: bs => by
    unfold pickW
    have := pickW_len ws bs
    split <;> simp <;> omega
theorem sqL_same {K : PySem.W.Frag} {H H' : Hp} {a : Addr} {xs : List V} (s : Same H H') (h : SqL K H a xs) : SqL K H' a xs := by
  rcases h with (h | ⟨o, h⟩) | h
  · exact .inl (.inl (s _ _ h))
  · exact .inl (.inr ⟨o, s _ _ h⟩)
  · exact .inr h
theorem gl_of {X : Cx} {sc : Scope} {x : Str} (hs : X.env.scope = sc) (h : glbB sc x = true) : Gl X x := by
  subst hs
  show X.env.scope.names.lookup x = _
  exact of_decide_eq_true h
theorem vis_of {X : Cx} {N : List Str} {sc : Scope} {i : Nat} {x : Str} (hN : X.N = N) (hs : X.env.scope = sc) (h : varB N sc i x = true) : X.N[i]? = some x ∧ Vis X.env.scope x ∧ (x == ("__debug__" : Str)) = false ∧ (x == ("__classdict__" : Str)) = false := by
  subst hN hs
  unfold varB at h
  simp only [Bool.and_eq_true, decide_eq_true_eq, Bool.not_eq_true'] at h
  obtain ⟨⟨⟨h1, h2⟩, h3⟩, h4⟩ := h
  refine ⟨h1, ?_, h3, h4⟩
  unfold visB at h2; unfold Vis
  split at h2
  · exact .inl ‹_›
  · exact .inr (.inl ‹_›)
  · exact .inr (.inr ‹_›)
  · cases h2
theorem pv_of {X : Cx} {N : List Str} {sc : Scope} {i : Nat} {x : Str} {p : Pos} (hN : X.N = N) (hs : X.env.scope = sc) (h : varB N sc i x = true) : PE X (.Name x p) (tVar i) := by
  obtain ⟨h1, h2, h3, h4⟩ := vis_of hN hs h
  exact pe_var h1 h2 h3 h4
theorem st_of {X : Cx} {N : List Str} {sc : Scope} {i : Nat} {x : Str} (hN : X.N = N) (hs : X.env.scope = sc) (hf : ∀ y, X.fn y = true) (h : stB true N sc i x = true) : X.N[i]? = some x ∧ L2.Loc X.env.scope x ∧ (X.fn x = true ∨ X.env.scope.names.lookup x = some .local) := by
  subst hN hs
  unfold stB at h
  simp only [Bool.and_eq_true, decide_eq_true_eq] at h
  refine ⟨h.1, ?_, .inl (hf x)⟩
  obtain ⟨_, h2⟩ := h
  unfold locB at h2; unfold L2.Loc
  split at h2
  · exact .inl ‹_›
  · exact .inr ‹_›
  · cases h2
section
variable {X : Cx} {a D : Addr} {oe : Obj}
theorem call_isP (C : ExcC X.K D) (hz : Zc (.ref D) none oe) (hf : ∃ vs, oe.data = .fields vs) (hp : (a, oe) ∈ X.pn) : CallR X (.builtin "isinstance") (rIsE X.K D a) := by
  intro pins s σ H xs us Q I r ⟨c, cv, b, ex, hcv, e, q⟩
  subst ex
  cases r with
  | cons rx rr =>
    cases rr with
    | cons rt rr =>
      cases rr; cases rx
      have ec := hcv _ rt
      subst ec
      obtain ⟨hget, _⟩ := I.pin (a, oe) (List.mem_append_left _ hp)
      obtain ⟨vs, hv⟩ := hf
      have J : PySem.W.InstAt s.heap a oe D none := by
        obtain ⟨oc, od, oda, osl⟩ := oe
        obtain ⟨h1, h2⟩ := hz
        dsimp only at h1 h2 hv
        subst h1 h2 hv
        exact ⟨hget, rfl, rfl, trivial⟩
      exact PySem.W.kia_one (PySem.W.handS_kitx_exc C.hg C.hk C.hs C.hd C.ha C.hn C.ht C.hm) I.kIn J e (fun z => nomatch z) fun tk => ⟨.bl b, H, I.kept (t' := tk) fun _ _ z => z, rfl, q⟩
def tI (a : Addr) (b : Bool) : TE := fun σ H Q => σ[0]? = some (some (.ref a)) ∧ Q (.bl b) H
theorem is_ok {N : List Str} {sc : Scope} {c : Str} {p : Expr} {v : V} {cv : Value} {b : Bool} (hN : X.N = N) (hsc : X.env.scope = sc) (hi : X.mg "isinstance" = none) (C : ExcC X.K D) (hz : Zc (.ref D) none oe) (hf : ∃ vs, oe.data = .fields vs) (hp : (a, oe) ∈ X.pn)
    (hc : ∀ {pos}, Gl X c → (c == ("__debug__" : Str)) = false → PE X (.Name c pos) (tC v)) (hv : ∀ u, RelV v u → u = cv) (hk : PySem.W.kitOne X.K (.ref D) cv = some b) (h : isB sc N c p = true) : PE X p (tI a b) ∧ notStar p = true := by
  unfold isB at h
  split at h
  · simp only [Bool.and_eq_true, decide_eq_true_eq, Bool.not_eq_true'] at h
    obtain ⟨⟨⟨⟨⟨h1, h2⟩, h3⟩, h4⟩, h5⟩, h6⟩ := h
    subst h1 h4
    refine ⟨PE.imp (pe_callB (call_isP C hz hf hp) (gl_of hsc h2) hi (by decide +kernel) (pa_cons (pv_of hN hsc h3) (pa_cons (hc (gl_of hsc h5) h6) pa_nil))) fun σ H Q ⟨q1, q2⟩ => ?_, rfl⟩
    exact ⟨_, q1, v, cv, b, rfl, hv, hk, q2⟩
  · cases h
theorem is_cls {mg : Str → Option Value} {cs : List Str} {bs : List Bool} {N : List Str} {sc : Scope} {p : Expr} (F : ErrK X.K mg D cs bs) (hm : X.mg = mg) (hN : X.N = N) (hsc : X.env.scope = sc) (hz : Zc (.ref D) none oe) (hf : ∃ vs, oe.data = .fields vs) (hp : (a, oe) ∈ X.pn) (i : Nat) {c : Str} (hc : cs[i]? = some c) (h : isB sc N c p = true) : ∃ b, bs[i]? = some b ∧ PE X p (tI a b) ∧ notStar p = true := by
  subst hm
  obtain ⟨C, b, e1, e2, e3⟩ := F.cls i c hc
  exact ⟨b, e2, is_ok (v := .ref C) hN hsc F.m1 F.ec hz hf hp (fun g d => pe_glob g e1 rfl d) (fun u r => r) e3 h⟩
theorem is_ve {mg : Str → Option Value} {cs : List Str} {bs : List Bool} {N : List Str} {sc : Scope} {p : Expr} (F : ErrK X.K mg D cs bs) (hm : X.mg = mg) (hN : X.N = N) (hsc : X.env.scope = sc) (hz : Zc (.ref D) none oe) (hf : ∃ vs, oe.data = .fields vs) (hp : (a, oe) ∈ X.pn) (h : isB sc N "ValueError" p = true) : PE X p (tI a true) ∧ notStar p = true := by
  subst hm
  exact is_ok (v := .ty "ValueError") hN hsc F.m1 F.ec hz hf hp (fun g d => pe_bltn g F.m3 (by decide +kernel) (r := rfl)) (fun u r => r) F.ve h
/-- three flags in a list -/
theorem pe_l3 {p1 p2 p3 : Expr} {b1 b2 b3 : Bool} {pos : Pos} (h1 : PE X p1 (tI a b1) ∧ notStar p1 = true) (h2 : PE X p2 (tI a b2) ∧ notStar p2 = true) (h3 : PE X p3 (tI a b3) ∧ notStar p3 = true) :
    PE X (.List [p1, p2, p3] pos) (fun σ H Q => σ[0]? = some (some (.ref a)) ∧ ∀ p, H p = none → Q (.ref p) (upd H p (.lst [.bl b1, .bl b2, .bl b3]))) :=
  PE.imp (pe_lst (pa_cons h1.1 (pa_cons h2.1 (pa_cons h3.1 pa_nil (starEach_cons h3.2)) (starEach_cons h2.2)) (starEach_cons h1.2))) fun σ H Q ⟨e, q⟩ => ⟨e, e, e, (by show (3 : Nat) ≤ sizeLine; decide), q⟩
theorem pe_l1 {p1 : Expr} {b1 : Bool} {pos : Pos} (h1 : PE X p1 (tI a b1) ∧ notStar p1 = true) : PE X (.List [p1] pos) (fun σ H Q => σ[0]? = some (some (.ref a)) ∧ ∀ p, H p = none → Q (.ref p) (upd H p (.lst [.bl b1]))) :=
  PE.imp (pe_lst (pa_cons h1.1 pa_nil (starEach_cons h1.2))) fun σ H Q ⟨e, q⟩ => ⟨e, (by show (1 : Nat) ≤ sizeLine; decide), q⟩
theorem psImp {st : Stmt} {t t' : TS} (h : PS X st t) (k : ∀ D σ H, t' D σ H → t D σ H) : PS X st t' := ⟨fun pins s σ H D I x => h.run pins s σ H D I (k D σ H x)⟩
theorem pssImp {st : List Stmt} {t t' : TS} (h : PSs X st t) (k : ∀ D σ H, t' D σ H → t D σ H) : PSs X st t' := ⟨fun pins s σ H D I x => h.run pins s σ H D I (k D σ H x)⟩
/-- some = some + [..] -/
theorem ps_add {N : List Str} {sc : Scope} {x y : Str} {e : Expr} {px py pb pos : Pos} {xs : List V} (hN : X.N = N) (nd : N.Nodup) (hsc : X.env.scope = sc) (hf : ∀ y, X.fn y = true) (h : addB sc N x y = true)
    (he : PE X e (fun σ H Q => σ[0]? = some (some (.ref a)) ∧ ∀ p, H p = none → Q (.ref p) (upd H p (.lst xs)))) :
    PS X (.Assign [.Name x px] (.BinOp (.Name y py) .Add e pb) pos) (fun Dn σ H => ∃ p ys, σ[1]? = some (some (.ref p)) ∧ H p = some (.lst ys) ∧ ys.length + xs.length ≤ sizeLine ∧ σ[0]? = some (some (.ref a)) ∧ ∀ q H', Same H H' → H' q = some (.lst (ys ++ xs)) → Dn.nx (σ.set 1 (some (.ref q))) H') := by
  unfold addB at h
  simp only [Bool.and_eq_true] at h
  obtain ⟨i1, i2, i3⟩ := st_of hN hsc hf h.1
  refine psImp (ps_set (by rw [hN]; exact nd) i1 i2 (pe_op op_cat (pv_of hN hsc h.2) he) (by rfl) i3) fun Dn σ H ⟨p, ys, e1, e2, hl, e0, q⟩ => ?_
  refine ⟨_, e1, e0, fun p2 h2 => ⟨p, p2, ys, xs, rfl, rfl, by rw [upd_ne (ne_of_none e2 h2)]; exact e2, upd_same, hl, fun p3 h3 => ?_⟩⟩
  have n32 : H p3 = none := by
    by_cases z : p3 = p2
    · rw [z]; exact h2
    · rw [upd_ne z] at h3; exact h3
  exact q p3 _ ((Same.upd h2).trans (Same.upd h3)) upd_same
/-- ' '.join([word for word, good in zip(words.split(' '), some) if good]) -/
theorem pe_pick {N : List Str} {sc : Scope} {wn2 a6 v1 v2 v3 g : Str} {scope : Scope} {p0 p1 p2 p3 p4 p5 p6 p7 p8 p9 ap1 ap2 cp1 cp2 zp2 pos : Pos} {k j j2 : Nat} {ws : List Str} {bs : List Bool} (hot : L2H.HotC X) (hN : X.N = N) (nd : N.Nodup) (hsc : X.env.scope = sc) (hz : X.mg "zip" = none)
    (g1 : varB N sc 1 a6 = true) (g2 : varB N sc 2 wn2 = true) (g3 : (ap1.endLine == cp1.line) = true) (g4 : (ap2.endLine == cp2.line) = true) (g5 : glbB sc "zip" = true) (g6 : blkC N sc scope [(N.getD 3 Str.empty, 3), (N.getD 4 Str.empty, 4)] = true)
    (g7 : varB N (relS scope sc) 3 v1 = true) (g8 : stB false N (relS scope sc) 3 v2 = true) (g9 : stB false N (relS scope sc) 4 v3 = true) (g10 : varB N (relS scope sc) 4 g = true) (hws : Txt.split errWs (Str.ofString " ") = ws) (hlen : ws.length = bs.length) (hsz : ∀ l, ((pickW ws l).map (·.length)).sum + (pickW ws l).length * 1 ≤ 16777216) :
    PE X (.Call (.Attribute (.Constant (.str (Str.ofString " ")) j p0) "join" ap1) [.ListComp (.Name v1 p1) [⟨.Tuple [.Name v2 p2, .Name v3 p3] k p4, .Call (.Name "zip" p5) [.Call (.Attribute (.Name wn2 p6) "split" ap2) [.Constant (.str (Str.ofString " ")) j2 p7] [] cp2, .Name a6 p8] [] zp2, [.Name g p9], 0⟩] scope pos] [] cp1)
      (fun σ H Q => ∃ v0 q, σ = [v0, some (.ref q), some (.str errWs), none, none] ∧ H q = some (.lst (bs.map V.bl)) ∧ ∀ H', Same H H' → Q (.str (Txt.join (Str.ofString " ") (pickW ws bs))) H') := by
  have ok : BlkOk X.N X.env.scope scope [(N.getD 3 Str.empty, 3), (N.getD 4 Str.empty, 4)] := by rw [hN, hsc]; exact blkOk_by g6
  have st : ∀ (s : Shared) (H : Hp) (C : Addr) (cl : List (Str × Addr)) (fp : List Addr) (i : Nat) (y : Str), stB false N (relS scope sc) i y = true → X.N[i]? = some y ∧ L2.Loc (relS scope sc) y ∧ (relS scope sc).names.lookup y = some .local := fun s H C cl fp i y h => by
    unfold stB at h
    simp only [Bool.and_eq_true, decide_eq_true_eq] at h
    obtain ⟨h1, h2⟩ := h
    refine ⟨by rw [hN]; exact h1, ?_⟩
    unfold locB at h2; unfold L2.Loc
    split at h2
    · exact ⟨.inl ‹_›, ‹_›⟩
    · cases h2
    · cases h2
  have esc : ∀ (s : Shared) (H : Hp) (C : Addr) (cl : List (Str × Addr)) (fp : List Addr), (X.blk s H scope (compEnvC scope cl C X.env) fp).env.scope = relS scope sc := fun s H C cl fp => by
    have e : relabel scope X.env = relS scope X.env.scope := rfl
    show relabel scope X.env = _
    rw [e, hsc]
  have lc := pe_lcz (X := X) (pos := pos) (e := .Call (.Attribute (.Name wn2 p6) "split" ap2) [.Constant (.str (Str.ofString " ")) j2 p7] [] cp2) (e2 := .Name a6 p8) (elts := [.Name v2 p2, .Name v3 p3]) (g := gTup X.K 2 (gCons (gName 3) (gCons (gName 4) gNil))) (tt := fun σ H Q => tVar 4 σ H fun x H1 => ∃ k, TruV X.K x H1 k ∧ Q k H1) (te := tVar 3) (elt := .Name v1 p1) (ifs := [.Name g p9]) (kk := k) (tpos := p4) (p := p5) (ipos := zp2) hot (by rw [hN]; exact nd) ok (gl_of hsc g5) hz
    (pa_cons (pe_split (apos := ap2) (pos := cp2) (pv_of (p := p6) hN hsc g2) (pe_str (j := j2) (pos := p7)) (hline := g4)) (pa_cons (pv_of (p := p8) hN hsc g1) pa_nil)) (by rfl) (by rfl)
    (fun s H C cl fp hk => pg_tupH hk (pgs_cons (pg_name (by rw [hN]; exact nd) (st s H C cl fp 3 v2 g8).1 (by rw [esc]; exact (st s H C cl fp 3 v2 g8).2.1) (.inr (by rw [esc]; exact (st s H C cl fp 3 v2 g8).2.2))) (pgs_cons (pg_name (by rw [hN]; exact nd) (st s H C cl fp 4 v3 g9).1 (by rw [esc]; exact (st s H C cl fp 4 v3 g9).2.1) (.inr (by rw [esc]; exact (st s H C cl fp 4 v3 g9).2.2))) pgs_nil)))
    (fun s H C cl fp => pts_one (pt_truth (pv_of (X := X.blk s H scope (compEnvC scope cl C X.env) fp) hN (esc s H C cl fp) g10) (by intro _; rfl))) (fun s H C cl fp => pv_of (X := X.blk s H scope (compEnvC scope cl C X.env) fp) hN (esc s H C cl fp) g7)
  refine PE.imp (pe_join (apos := ap1) (pos := cp1) (pe_str (j := j) (pos := p0)) lc (hline := g3)) fun σ H Q ⟨v0, q, eσ, hq, hQ⟩ => ?_
  subst eσ
  refine ⟨⟨_, rfl⟩, _, rfl, ⟨_, rfl⟩, errWs, Str.ofString " ", rfl, rfl, by decide +kernel, by decide +kernel, fun p hp => ⟨_, rfl, p, q, _, _, rfl, .inl (.inl upd_same), sqL_same (Same.upd hp) (.inl (.inl hq)), fun D hD => ?_⟩⟩
  rw [hws] at hD ⊢
  generalize hH1 : upd H p (.lst (ws.map V.str)) = H1 at hD ⊢
  have s1 : Same H H1 := by rw [← hH1]; exact Same.upd hp
  have q1 : H1 p = some (.lst (ws.map V.str)) := by rw [← hH1]; exact upd_same
  have q2 : H1 q = some (.lst (bs.map V.bl)) := s1 _ _ hq
  refine ⟨fun i m H' => m = ws.length - i ∧ i ≤ ws.length ∧ Same H1 H' ∧ H' D = some (.lst ((pickW (ws.take i) (bs.take i)).map V.str)), ⟨_, rfl, Nat.zero_le _, Same.upd hD, upd_same⟩, ?_⟩
  rintro i m H' ⟨rfl, hi, s2, eD⟩
  have c1 : SqL X.K H' p (ws.map V.str) := .inl (.inl (s2 _ _ q1))
  have c2 : SqL X.K H' q (bs.map V.bl) := .inl (.inl (s2 _ _ q2))
  by_cases hlt : i < ws.length
  · have w1 : ws[i]? = some ws[i] := List.getElem?_eq_getElem hlt
    have b1 : bs[i]? = some (bs[i]'(by omega)) := List.getElem?_eq_getElem _
    have x1 : (ws.map V.str)[i]? = some (.str ws[i]) := by rw [List.getElem?_map, w1]; rfl
    have y1 : (bs.map V.bl)[i]? = some (.bl (bs[i]'(by omega))) := by rw [List.getElem?_map, b1]; rfl
    refine .inr ⟨⟨_, _, _, _, c1, c2, x1, y1⟩, fun H2 => i + 1 ≤ ws.length ∧ Same H1 H2 ∧ H2 D = some (.lst ((pickW (ws.take (i + 1)) (bs.take (i + 1))).map V.str)), fun H2 ⟨h1, h2, h3⟩ => ⟨_, by omega, rfl, h1, h2, h3⟩, ?_⟩
    rintro x H2 ⟨T, x', y', rfl, hT, rfl, hx, hy⟩
    have ex : x' = .str ws[i] := Option.some.inj ((hx _ c1).symm.trans x1)
    have ey : y' = .bl (bs[i]'(by omega)) := Option.some.inj ((hy _ c2).symm.trans y1)
    subst ex ey
    have nT : T ≠ D := fun z => by rw [z, eD] at hT; cases hT
    have s3 : Same H1 (upd H' T (.tup [.str ws[i], .bl (bs[i]'(by omega))])) := s2.trans (Same.upd hT)
    have eD' : upd H' T (.tup [.str ws[i], .bl (bs[i]'(by omega))]) D = some (.lst ((pickW (ws.take i) (bs.take i)).map V.str)) := by rw [upd_ne (Ne.symm nT)]; exact eD
    have pk := pickW_snoc ws bs i ws[i] (bs[i]'(by omega)) w1 b1
    refine ⟨T, _, rfl, .inl (.inl upd_same), rfl, _, _, rfl, _, _, rfl, rfl, rfl, _, rfl, _, rfl, ?_⟩
    cases hb : (bs[i]'(by omega)) with
    | false =>
      rw [if_neg (by decide)]
      rw [hb] at pk eD' s3
      exact ⟨hlt, s3, by rw [pk]; simpa using eD'⟩
    | true =>
      rw [if_pos rfl]
      rw [hb] at pk eD' s3
      refine ⟨_, rfl, _, eD', ?_, hlt, fun b o e => ?_, ?_⟩
      · rw [List.length_map]
        have := pickW_len (ws.take i) (bs.take i)
        have h2 : (ws.take i).length ≤ ws.length := by rw [List.length_take]; omega
        have h3 : ws.length ≤ 100 := by rw [← hws]; decide +kernel
        show _ < sizeLine
        have h4 : sizeLine = 16777216 := sizeLine_eq
        omega
      · rw [upd_ne (ne_of_none e hD)]; exact s3 b o e
      · rw [upd_same, pk]; simp
  · have hi' : i = ws.length := by omega
    subst hi'
    refine .inl ⟨⟨_, _, c1, c2, .inl (by rw [List.length_map]; exact Nat.le_refl _)⟩, ?_⟩
    rw [List.take_length, show bs.take ws.length = bs by rw [hlen, List.take_length]] at eD
    exact ⟨_, D, pickW ws bs, rfl, rfl, .inl (.inl (.inl eD)), hsz bs, hQ H' (s1.trans s2)⟩
theorem split_len : (Txt.split errWs (Str.ofString " ")).length = 10 := by decide +kernel
theorem pick_sum : ∀ (ws : List Str) (l : List Bool), ((pickW ws l).map (·.length)).sum + (pickW ws l).length * 1 ≤ (ws.map (·.length)).sum + ws.length
  | [], _ => by simp [pickW]
  | _ :: _, [] => by simp [pickW]
  | w :: ws, b :: bs => by
    have := pick_sum ws bs
    unfold pickW
    cases b <;> simp at this ⊢ <;> omega
/-- the body of the def that tells the name -/
theorem nam_body {N : List Str} {sc : Scope} {body : List Stmt} {bs : List Bool} {nm : Str} (hot : L2H.HotC X) (hN : X.N = N) (nd : N.Nodup) (hsc : X.env.scope = sc) (hf : ∀ y, X.fn y = true) (F : ErrK X.K X.mg D errCs bs) (hz : Zc (.ref D) none oe) (hd : ∃ vs, oe.data = .fields vs) (hp : (a, oe) ∈ X.pn)
    (hnm : Txt.join (Str.ofString " ") (pickW (Txt.split errWs (Str.ofString " ")) (bs ++ [true])) = nm) (h : namB N sc body = true) :
    PSs X body (fun Dn σ H => σ = [some (.ref a), none, none, none, none] ∧ ∀ H', Same H H' → Dn.rt (.str nm) H') := by
  unfold namB at h
  split at h
  · simp only [Bool.and_eq_true, decide_eq_true_eq] at h
    obtain ⟨⟨⟨⟨⟨⟨⟨⟨⟨⟨⟨⟨⟨⟨⟨⟨⟨⟨⟨⟨⟨⟨⟨⟨⟨⟨⟨⟨⟨⟨⟨k1, k2⟩, k3⟩, k4⟩, k5⟩, k6⟩, k7⟩, k8⟩, k9⟩, k10⟩, a1⟩, a2⟩, a3⟩, a5⟩, a6⟩, w1⟩, w2⟩, e1⟩, e2⟩, e3⟩, e4⟩, e5⟩, l1⟩, l2⟩, e6⟩, g1⟩, g2⟩, g3⟩, g4⟩, g5⟩, g6⟩, hl⟩ := h
    subst e1 e2 e3 e4 e5 e6
    obtain ⟨b1, c1, x1⟩ := is_cls F rfl hN hsc hz hd hp 0 rfl k1
    obtain ⟨b2, c2, x2⟩ := is_cls F rfl hN hsc hz hd hp 1 rfl k2
    obtain ⟨b3, c3, x3⟩ := is_cls F rfl hN hsc hz hd hp 2 rfl k3
    obtain ⟨b4, c4, x4⟩ := is_cls F rfl hN hsc hz hd hp 3 rfl k4
    obtain ⟨b5, c5, x5⟩ := is_cls F rfl hN hsc hz hd hp 4 rfl k5
    obtain ⟨b6, c6, x6⟩ := is_cls F rfl hN hsc hz hd hp 5 rfl k6
    obtain ⟨b7, c7, x7⟩ := is_cls F rfl hN hsc hz hd hp 6 rfl k7
    obtain ⟨b8, c8, x8⟩ := is_cls F rfl hN hsc hz hd hp 7 rfl k8
    obtain ⟨b9, c9, x9⟩ := is_cls F rfl hN hsc hz hd hp 8 rfl k9
    have x10 := is_ve F rfl hN hsc hz hd hp k10
    have ebs : bs = [b1, b2, b3, b4, b5, b6, b7, b8, b9] := by
      have hlen : bs.length = 9 := F.len
      match bs, hlen, c1, c2, c3, c4, c5, c6, c7, c8, c9 with
      | [_, _, _, _, _, _, _, _, _], _, c1, c2, c3, c4, c5, c6, c7, c8, c9 =>
        simp at c1 c2 c3 c4 c5 c6 c7 c8 c9
        subst c1 c2 c3 c4 c5 c6 c7 c8 c9
        rfl
    obtain ⟨i1, i2, i3⟩ := st_of hN hsc hf a1
    obtain ⟨j1, j2, j3⟩ := st_of hN hsc hf w1
    have nd' : X.N.Nodup := by rw [hN]; exact nd
    refine pssImp (pss_cons (ps_set nd' i1 i2 (pe_l3 x1 x2 x3) (by rfl) i3) (pss_cons (ps_add hN nd hsc hf a2 (pe_l3 x4 x5 x6)) (pss_cons (ps_add hN nd hsc hf a3 (pe_l3 x7 x8 x9)) (pss_cons (ps_set nd' j1 j2 pe_str (by rfl) j3) (pss_cons (ps_add hN nd hsc hf a5 (pe_l1 x10)) (pss_one (ps_ret (pe_pick (bs := bs ++ [true]) hot hN nd hsc F.m2 a6 w2 l1 l2 g1 g2 g3 g4 g5 g6 rfl (by rw [split_len, ebs]; rfl) (fun l => Nat.le_trans (pick_sum _ l) (by decide +kernel)))))))))) fun Dn σ H ⟨eσ, q⟩ => ?_
    subst eσ
    refine ⟨rfl, fun p1 hp1 => ?_⟩
    refine ⟨p1, _, rfl, upd_same, by show (6 : Nat) ≤ sizeLine; decide, rfl, fun p2 H2 s2 e2 => ?_⟩
    refine ⟨p2, _, rfl, e2, by show (9 : Nat) ≤ sizeLine; decide, rfl, fun p3 H3 s3 e3 => ?_⟩
    refine ⟨p3, _, rfl, e3, by show (10 : Nat) ≤ sizeLine; decide, rfl, fun p4 H4 s4 e4 => ?_⟩
    refine ⟨_, p4, rfl, by rw [e4, ebs]; rfl, fun H5 s5 => ?_⟩
    rw [hnm]
    exact q H5 ((Same.upd hp1).trans (s2.trans (s3.trans (s4.trans s5))))
  · cases h
end
end Pv
end
section
set_option Elab.async false
set_option linter.all false
set_option maxRecDepth 100000
set_option maxHeartbeats 4000000
namespace Pv
open PySem PySem.Spec PyProof.Rows L2 HotX

section
variable {X : Cx} {a D : Addr} {oe : Obj} {pn : List (Addr × Obj)}
/-- name(e), e the error that is handled -/
theorem pe_nam {N : List Str} {p ev : Str} {st : Stmt} {h : Addr} {fd : FuncData} {bs : List Bool} {nm : Str} {p1 p2 pos : Pos} (hp : (a, oe) ∈ X.pn) (hot : L2H.Hot1 X.A (a, oe)) (hr : L2H.RoomH 1 X.A) (Fn : FunD X.K "_law_named_error" "_law_named_error" (defArgs st) (defBody st) (defScope st) [] [] h fd) (hm : X.mg "_law_named_error" = some (.ref h)) (hb : Binds X.K fd [p] [])
    (S : FnScope N [p] (defScope st)) (hl : N.length = 5) (hB : namB N (defScope st) (defBody st) = true) (F : ErrK X.K X.mg D errCs bs) (hz : Zc (.ref D) none oe) (hd : ∃ vs, oe.data = .fields vs) (hnm : Txt.join (Str.ofString " ") (pickW (Txt.split errWs (Str.ofString " ")) (bs ++ [true])) = nm)
    (hg : Gl X "_law_named_error") {i : Nat} (he : X.N[i]? = some ev) (hv : Vis X.env.scope ev) (hd1 : (ev == ("__debug__" : Str)) = false) (hd2 : (ev == ("__classdict__" : Str)) = false) :
    PE X (.Call (.Name "_law_named_error" p1) [.Name ev p2] [] pos) (fun σ H Q => σ[i]? = some (some (.ref a)) ∧ ∀ H', Same H H' → Q (.str nm) H') := by
  refine ⟨fun pins s σ H Q I ⟨eσ, hQ⟩ => ?_⟩
  have ha : PA X [.Name ev p2] (tCons (tVar i) tNil) := pa_cons (pe_var he hv hd1 hd2) pa_nil
  refine wpAny_Call_Name_kw (ld_glob I hg hm ?_ (by decide))
  refine PySem.W.callWith_K (h₀ := X.base) I.ok.mod.kin Fn.kp (thn (ha.run pos pins s σ H (fun vs H1 => vs = [.ref a] ∧ H = H1) I ⟨_, eσ, rfl, rfl⟩) fun us s1 ⟨vs, H1, I1, r, e1, e2⟩ => ⟨I1.kIn, ?_⟩) (by rfl) (by rfl)
  subst e1 e2
  obtain ⟨oc, od, dV, kV, doc, pm, an, cdv, ct, osl, efd, lk, hcd, _, _⟩ := Fn.ex
  have P1 := I1.pin (a, oe) (List.mem_append_left _ hp)
  have hpin : L2H.PinOk X.stack H s1 (a, oe) := ⟨P1.1, P1.2.1, fun hm => (List.mem_cons.mp (I1.stkSub a hm)).elim P1.2.2.1 P1.2.2.2.1, P1.2.2.2.2⟩
  have hlu : us.length = 1 := by rw [← r.length]; rfl
  have b := hb s1 us I1.kIn (by rw [List.append_nil]; exact hlu)
  rw [List.append_nil] at b
  have e0 := I1.env0
  have KX : X.K.In s1.heap := I1.kIn
  have lim : s1.heap.NoLimit := I1.nolimit
  have hkind : ∀ y ∈ [p].zip us, (defScope st).names.lookup y.1 = some .local ∨ ((defScope st).names.lookup y.1 = some .cell ∧ ((cellsFrom (s1.heap.objs.size + 1) (defScope st).names []).lookup y.1).isSome = true) := fun ⟨n, v⟩ hy =>
    (S.par n (List.of_mem_zip hy).1).elim .inl fun q => .inr ⟨q, PySem.W.cellsFrom_some _ _ _ (.inl q)⟩
  have rc : codeAny (model X.prog X.w) X.A (.call (.ref h) ⟨us, []⟩) (CR (L2N.CX X.prog X.w) X.stack X.prog X.w H s1 Q fun _ _ _ => False) s1 := by
    rw [efd] at b
    refine codeAny_call_function hr.depth (KX _ _ lk |> fun z => by rw [efd] at z; exact z) rfl S.co S.gen rfl (PySem.W.codeRec_of KX hcd) (b _ _ _ _ (wpAny_newFunctionEnv_cells S.kind hkind fun env he s2 x => ?_))
    subst he
    refine ⟨lim.keeps x.toInCall.keep, codeAny_func ?_⟩
    have J := L2H.inv_startH (CX := L2N.CX X.prog X.w) (N := N) (E := fun _ _ _ => False) S hpin e0 rfl r x
    have body := nam_body (X := L2H.cxH (L2N.CX X.prog X.w) X.prog X.w X.K X.mg X.base N "_law_named_error" (defScope st) h cdv X.A X.stack s1 H (fun _ _ _ => False) (a, oe)) (a := a) (D := D) (oe := oe) ⟨(a, oe), ⟨hot.1, hot.2⟩, List.mem_cons_self⟩ rfl S.nd rfl (fun _ => rfl) F hz hd List.mem_cons_self hnm hB
    refine wpAny_mono (body.run [] s2 _ H { nx := fun _ H' => Q .non H', rt := Q } J ⟨?_, hQ⟩) (fun f s' hs => ?_) fun e s' hs => hs
    · unfold L2.start
      rw [hl]; rfl
    · cases f with
      | ret u =>
        obtain ⟨v, σ', H', J, rv, q⟩ := hs
        exact ⟨v, H', J.os, J.bare, J.base, J.hok, rv, q⟩
      | next =>
        obtain ⟨σ', H', J, q⟩ := hs
        exact ⟨.non, H', J.os, J.bare, J.base, J.hok, rfl, q⟩
      | brk => obtain ⟨_, _, _, q⟩ := hs; exact q.elim
      | cont => obtain ⟨_, _, _, q⟩ := hs; exact q.elim
  refine wpAny_call (codeAny_mono rc fun r s' hq => ?_)
  cases r with
  | error e =>
    obtain ⟨_, _, _, _, _, _, _, _, _, _, _, _, z⟩ := hq
    exact z.elim
  | ok fl =>
    cases fl with
    | ret u => exact I1.after hq
    | next => exact False.elim hq
    | brk => exact False.elim hq
    | cont => exact False.elim hq
end
end Pv
end
section
set_option Elab.async false
set_option linter.all false
set_option maxRecDepth 100000
set_option maxHeartbeats 4000000
namespace Pv
open PySem PySem.Spec PyProof.Rows L2 HotX LamX

abbrev TabK (H H' : Hp) : Prop := ∀ b ps, H b = some (.tbl ps) → ∃ more, H' b = some (.tbl (ps ++ more))
section
variable {X : Cx} {pins : List (Addr × Obj)} {σ : L2.St} {H : Hp} {s : Shared}
/-- the lambda is made; tables only grow -/
theorem lam_make3 {T : List (Addr × Str)} {c P : Addr} {params : Arguments} {body : Expr} {scope : Scope} {pos : Pos} {E : Value → Shared → Prop} {Q : Value → Shared → Prop} (I : L2.Inv X pins σ H s) (TB : TabB X.base X.mg c P) (hcode : X.env.code = .ref c)
    (hm : (P, X.env.qual ++ "<lambda>") ∈ T) (hu : ∀ p ∈ T, p.1 = P → p.2 = X.env.qual ++ "<lambda>") (hT : Tabs T H) (hdef : defaultsOf params X.env = ([], [])) (hfree : ∀ y ∈ scope.names, y.2 = .free → ∃ c, X.env.cells.lookup y.1 = some c)
    (h : ∀ (f c' : Addr) (pm ctv : Value) (H1 : Hp) (s' : Shared), L2.Inv X pins σ H1 s' → ExtN H H1 → TabK H H1 → Tabs T H1 → s'.heap.get? f = some (PySem.W.kla_obj "<lambda>" (X.env.qual ++ "<lambda>") params body scope (cloFrom X.env.cells scope.names []) pm c' ctv) → H1 f = none → f ∉ frs X.stack → H1 c' = some (CodeO c' (X.env.qual ++ "<lambda>")) → Q (.ref f) s') :
    wpAny (model X.prog X.w) X.A (eval (.Lambda params body scope pos) X.env) Q E s := by
  obtain ⟨ps, hP, ht, ha⟩ := hT _ hm
  have bP : s.heap.BuiltinsAt X.mg P := TB.bm.keeps I.bk
  have gP : s.heap.get? P = some { cls := .none, data := .fields ps } := I.hok P _ hP
  have nofr : ∀ f, s.heap.objs.size ≤ f → f ∉ frs X.stack := fun f hf z => (List.mem_cons.mp (I.stkSub _ z)).elim (fun e => by have h1 := I.lt; rw [← e] at h1; exact absurd (Nat.lt_of_lt_of_le h1 hf) (Nat.lt_irrefl _)) (I.nofs hf)
  refine PySem.W.kla_eval hdef ?_
  cases hc : codeAmong pos ps.toList with
  | none =>
    refine PySem.W.kla_makeFunction (mg := X.mg) (c := c) (P := P) (ps := ps) (closure_ok hfree) I.ok.glob (I.mod.glob.keeps I.bk) hcode (TB.code.keeps I.bk) gP ht hc TB.gP bP fun c' ctv h' tk hx hge hlt ⟨c2, oc, vs, t, e2, hoc, hd, hv⟩ htb => ?_
    cases e2
    have nC : H c' = none := I.hok.fresh hge
    have nCP : P ≠ c' := ne_of_none hP nC
    have I1 := inv_table (t' := tk) (more := #[rawInt pos.line, rawInt pos.col, .ref c']) (h' := h'.push (PySem.W.kla_obj "<lambda>" (X.env.qual ++ "<lambda>") params body scope (cloFrom X.env.cells scope.names []) ((X.mg "__name__").getD .none) c' ctv)) I hP (fun b o hb e => Heap.get?_push_of_some _ (hx b o hb e)) (Heap.get?_push_of_some _ htb) hge ⟨oc, vs, t, Heap.get?_push_of_some _ hoc, hd, hv⟩
    have hE : ExtN H (upd (upd H P (.tbl (ps ++ #[rawInt pos.line, rawInt pos.col, .ref c']))) c' (CodeO c' (X.env.qual ++ "<lambda>"))) := fun b o e n => by
      rw [upd_ne (ne_of_none e nC), upd_ne (fun z => n ps (Option.some.inj (e.symm.trans (by rw [z]; exact hP))))]; exact e
    have hK : TabK H (upd (upd H P (.tbl (ps ++ #[rawInt pos.line, rawInt pos.col, .ref c']))) c' (CodeO c' (X.env.qual ++ "<lambda>"))) := fun b qs e => by
      by_cases z : b = P
      · rw [z, hP] at e; cases e
        exact ⟨_, by rw [z, upd_ne nCP, upd_same]⟩
      · exact ⟨#[], by rw [upd_ne (ne_of_none e nC), upd_ne z, e]; simp⟩
    have eL : (ps ++ #[rawInt pos.line, rawInt pos.col, .ref c']).toList = ps.toList ++ [rawInt pos.line, rawInt pos.col, .ref c'] := by simp
    have hsz : s.heap.objs.size ≤ h'.objs.size := Nat.le_trans hge (Nat.le_of_lt hlt)
    refine h h'.objs.size c' ((X.mg "__name__").getD .none) ctv _ _ I1 hE hK (fun p hp => ?_) (Heap.get?_push_size _ rfl) ?_ (nofr _ hsz) upd_same
    · by_cases hb : p.1 = P
      · rw [hu p hp hb, hb]
        refine ⟨_, by rw [upd_ne nCP, upd_same], by rw [eL]; exact PySem.TriplesOk_snoc _ _ _ _ ht, fun p' cv hcv => ?_⟩
        rw [eL] at hcv
        exact (among_app _ ht hcv).elim (fun z => let ⟨c0, e1, e2⟩ := ha p' cv z; ⟨c0, e1, hE _ _ e2 codeO_ne⟩) fun z => ⟨c', z, upd_same⟩
      · obtain ⟨ps', a1, a2, a3⟩ := hT p hp
        exact ⟨ps', by rw [upd_ne (ne_of_none a1 nC), upd_ne hb]; exact a1, a2, fun p' cv hcv => let ⟨c0, e1, e2⟩ := a3 p' cv hcv; ⟨c0, e1, hE _ _ e2 codeO_ne⟩⟩
    · have n2 : h'.objs.size ≠ P := Nat.ne_of_gt (Nat.lt_of_lt_of_le (Heap.lt_size gP) hsz)
      rw [upd_ne (Nat.ne_of_gt hlt), upd_ne n2]; exact I.hok.fresh hsz
  | some cv =>
    obtain ⟨c', e, hco⟩ := ha pos cv hc
    subst e
    refine PySem.W.kla_makeFunctionHit (mg := X.mg) (c := c) (P := P) (ps := ps) (closure_ok hfree) I.ok.glob (I.mod.glob.keeps I.bk) hcode (TB.code.keeps I.bk) gP ht hc bP fun ctv h' tk hx hsz => ?_
    exact h h'.objs.size c' ((X.mg "__name__").getD .none) ctv H _ (I.kept fun b o e => Heap.get?_push_of_some _ (hx b o e)) (ExtN.refl H) (fun b qs e => ⟨#[], by rw [e]; simp⟩) hT (Heap.get?_push_size _ rfl) (I.hok.fresh hsz) (nofr _ hsz) hco
end
/-- the context of the lambda's body; an error that leaves it has no context -/
abbrev lamCxN (X : Cx) (A : Around) (outer : List Env) (s : Shared) (H : Hp) (E : XK) (scope : Scope) (f c' : Addr) : Cx :=
  { lamCx X A outer s H E scope f c' with xe := fun e s' => wpAny (model X.prog X.w) (A.deeper (lamEnv X scope s.heap.objs.size f c')) (leaving (lamEnv X scope s.heap.objs.size f c') e) (fun _ s'' => L2N.CX X.prog X.w outer H s E e s'') (fun e' s'' => L2N.CX X.prog X.w outer H s E e' s'') s' }
section
variable {X : Cx} {pins : List (Addr × Obj)} {σ : L2.St} {H : Hp} {s : Shared}
/-- call() within the def that got the lambda -/
theorem pe_actN {CXg : CXT} {Eg : XK} {Ng : List Str} {qg : Str} {sg : Scope} {g f c' : Addr} {cdg pm ctv : Value} {params : Arguments} {body : Expr} {scope : Scope} {k i : Nat} {a : Str} {pn : List (Addr × Obj)} {xe : Value → Shared → Prop} {W : WX} {tb : XK → TE} {p1 p2 : Pos}
    (I : L2.Inv X pins σ H s) (L : LamS X.env.scope scope) (hf : s.heap.get? f = some (PySem.W.kla_obj "<lambda>" (X.env.qual ++ "<lambda>") params body scope (cloFrom X.env.cells scope.names []) pm c' ctv)) (hfn : H f = none) (hfr : f ∉ frs X.stack)
    (hbind : bindArgs (PySem.W.kla_fn "<lambda>" (X.env.qual ++ "<lambda>") params body scope (cloFrom X.env.cells scope.names []) pm (.ref c') ctv) ⟨[], []⟩ = pure [])
    (tk : L2N.Takes ((cxOf CXg X.prog X.w X.K X.mg X.base Ng qg sg g cdg X.A X.stack s H Eg).tr pn xe) W) (hr : Room (k + 1) (X.A.deeper (envOfC qg sg s.heap.objs.size g cdg)))
    (hbody : ∀ (A : Around) (outer : List Env) (s : Shared) (H : Hp) (E : XK), Room k (A.deeper (lamEnv X scope s.heap.objs.size f c')) → PE (lamCxN X A outer s H E scope f c') body (tb E))
    (hN : Ng[i]? = some a) (hv : Vis sg a) (hd : (a == ("__debug__" : Str)) = false) (hcd : (a == ("__classdict__" : Str)) = false) :
    PE ((cxOf CXg X.prog X.w X.K X.mg X.base Ng qg sg g cdg X.A X.stack s H Eg).tr pn xe) (.Call (.Name a p1) [] [] p2) (fun σZ HZ Q => σZ[i]? = some (some (.ref f)) ∧ HZ c' = some (CodeO c' (X.env.qual ++ "<lambda>")) ∧ tb (WE W σZ) σ HZ Q) := by
  refine ⟨fun pinsZ sZ σZ HZ Q IZ ⟨hs, hc, ht⟩ => ?_⟩
  generalize hE : WE W σZ = E at ht
  refine wpAny_Call_Name_kw (thn ((pe_var (pos := p1) (i := i) hN hv hd hcd).run pinsZ sZ σZ HZ (fun v H1 => v = .ref f ∧ H1 = HZ) IZ ⟨.ref f, hs, rfl, rfl⟩) fun u s1 ⟨v, H1, I1, r1, ev, eH⟩ => ?_)
  subst ev eH
  obtain rfl : u = Value.ref f := r1
  have of1 : s1.heap.get? f = some (PySem.W.kla_obj "<lambda>" (X.env.qual ++ "<lambda>") params body scope (cloFrom X.env.cells scope.names []) pm c' ctv) := I1.base.keep f _ hf hfn hfr (fun z => nomatch (show f ∈ ([] : List Addr) from z))
  refine PySem.W.callWith_F0 ⟨_, _, _, _, of1⟩ ?_
  have un : Un (frs X.stack) [] H H1 s.heap s1.heap := I1.base
  obtain ⟨⟨oc, vs, t, hoc, hdc, hvc⟩, _, _⟩ := I1.hok c' _ hc
  have rc : codeAny (model X.prog X.w) (X.A.deeper (envOfC qg sg s.heap.objs.size g cdg)) (.call (.ref f) ⟨[], []⟩) (CR (L2N.CX X.prog X.w) (envOfC qg sg s.heap.objs.size g cdg :: X.stack) X.prog X.w H1 s1 Q E) s1 := by
    refine PySem.W.kla_callFunE hr.depth of1 rfl L.co L.gen rfl ⟨c', oc, vs, t, rfl, hoc, hdc, hvc⟩ ?_
    rw [hbind]
    refine wpAny_pure (wpAny_newFunctionEnv (fun y hy => (L.own y hy).2) (fun y hy => absurd hy (by simp)) (fun h₁ hns hsb => ⟨I1.nolimit.fresh _ hsb, ?_⟩) L.kind)
    show codeAny _ _ (.expr body (lamEnv X scope s1.heap.objs.size f c')) _ _
    have kp : ∀ b o, s1.heap.get? b = some o → h₁.get? b = some o := fun b o e => hsb.extBut b o (Nat.ne_of_lt (Heap.lt_size e)) (Heap.get?_push_of_some _ e)
    have J0 : L2.Inv (lamCx X (X.A.deeper (envOfC qg sg s.heap.objs.size g cdg)) (envOfC qg sg s.heap.objs.size g cdg :: X.stack) s1 H1 E scope f c') [] σ H1 { s1 with heap := h₁, toks := s1.toks + ([] : List (Str × Value)).length } := lam_start2 I L I1.env0 hr.hd un hns kp
    have J : L2.Inv (lamCxN X (X.A.deeper (envOfC qg sg s.heap.objs.size g cdg)) (envOfC qg sg s.heap.objs.size g cdg :: X.stack) s1 H1 E scope f c') [] σ H1 { s1 with heap := h₁, toks := s1.toks + ([] : List (Str × Value)).length } := J0.wish _
    refine PySem.W.kla_codeExpr (wpAny_mono ((hbody _ _ s1 H1 E (hr.deeper _)).run [] _ _ H1 Q J ht) (fun v s' ⟨w', H', J', rv, q⟩ => ⟨w', H', J'.os, J'.bare, J'.base, J'.hok, rv, q⟩) fun e s' hq => hq)
  subst hE
  refine wpAny_call (codeAny_mono rc fun r s' hq => ?_)
  cases r with
  | error e => exact L2N.passAt tk σZ pinsZ H1 s1 e s' I1 hq
  | ok fl =>
    cases fl with
    | ret u => exact I1.after hq
    | next => exact False.elim hq
    | brk => exact False.elim hq
    | cont => exact False.elim hq
end
end Pv
end
section
set_option Elab.async false
set_option linter.all false
set_option maxRecDepth 100000
set_option maxHeartbeats 4000000
namespace Pv
open PySem PySem.Spec PyProof.Rows L2 HotX LamX

/-- what is wanted of an error that the lambda lets out -/
def errX (ex : Nat → Value) (Q : VK) : XK := fun cls d H2 => d = none ∧ ∃ n nm, cls = ex n ∧ errN n = some nm ∧ ∀ H3, Same H2 H3 → Q (.str nm) H3
theorem namB_len {N : List Str} {sc : Scope} {b : List Stmt} (h : namB N sc b = true) : N.length = 5 := by
  unfold namB at h
  split at h
  · simp only [Bool.and_eq_true, decide_eq_true_eq] at h
    exact h.2
  · cases h
theorem errB_len {N : List Str} {sc : Scope} {b : List Stmt} (h : errB N sc b = true) : N.length = 2 := by
  unfold errB at h
  split at h
  · simp only [Bool.and_eq_true, decide_eq_true_eq] at h
    exact h.2
  · cases h
section
variable {X : Cx} {ex : Nat → Value}
/-- the suite: return name(e) -/
theorem err_suite {Z : Cx} {N : List Str} {sc : Scope} {f ev : Str} {p1 p2 p3 p4 : Pos} {a : Addr} {oe : Obj} {pn : List (Addr × Obj)} (F : ErrF Z.K Z.mg ex) (hN : Z.N = N) (hsc : Z.env.scope = sc) (hr : L2H.RoomH 1 Z.A) (hf : f = "_law_named_error") (hg : glbB sc "_law_named_error" = true) (hv : varB N sc 1 ev = true) (cls : Value) (d : Option Addr) (hz : L2N.Zn cls d oe) (hd : ∃ vs, oe.data = .fields vs) :
    PSs (Z.suite a ((a, oe) :: pn)) [.Return (some (.Call (.Name f p1) [.Name ev p2] [] p3)) p4] (fun Dn σ H => d = none ∧ σ[1]? = some (some (.ref a)) ∧ ∃ n nm, cls = ex n ∧ errN n = some nm ∧ ∀ H3, Same H H3 → Dn.rt (.str nm) H3) := by
  subst hf
  refine ⟨fun pins s σ H Dn I ⟨ed, e1, n, nm, ec, en, q⟩ => ?_⟩
  obtain ⟨N', p, st, h, fd, Fn, hm, hb, S, hB⟩ := F.nam
  obtain ⟨CS, _, hcl⟩ := F.spd
  obtain ⟨D, bs, eD, FK, _, hj⟩ := hcl n nm en
  rw [ec, eD, ed] at hz
  obtain ⟨v1, v2, v3, v4⟩ := vis_of (X := Z.suite a ((a, oe) :: pn)) hN hsc hv
  obtain ⟨vs, hvs⟩ := id hd
  have call := pe_nam (X := Z.suite a ((a, oe) :: pn)) (p1 := p1) (p2 := p2) (pos := p3) (a := a) (oe := oe) List.mem_cons_self ⟨rfl, vs, hvs, hz.2.2 vs hvs⟩ ⟨hr.dp, hr.un⟩ Fn hm hb S (namB_len hB) hB FK hz.zc hd hj (gl_of hsc hg) v1 v2 v3 v4
  exact (pss_one (ps_ret call)).run pins s σ H Dn I ⟨e1, q⟩
/-- the def's body, the lambda at f -/
theorem err_body {N : List Str} {sg : Scope} {body : List Stmt} {g f c' : Addr} {cdg : Value} {s : Shared} {H : Hp} {q : Str} {tl : XK → Hp → VK → Prop} {k : Nat} (F : ErrF X.K X.mg ex) (nd : N.Nodup) (hr : Room (k + 1) (X.A.deeper (envOfC "_law_error" sg s.heap.objs.size g cdg))) (hB : errB N sg body = true)
    (act : ∀ (W : WX) (pn : List (Addr × Obj)) (xe : Value → Shared → Prop) (a : Str) (p1 p2 : Pos), varB N sg 0 a = true → L2N.Takes ((cxOf C8.CX0 X.prog X.w X.K X.mg X.base N "_law_error" sg g cdg X.A X.stack s H C8.E0).tr pn xe) W →
      PE ((cxOf C8.CX0 X.prog X.w X.K X.mg X.base N "_law_error" sg g cdg X.A X.stack s H C8.E0).tr pn xe) (.Call (.Name a p1) [] [] p2) (fun σZ HZ Q => σZ[0]? = some (some (.ref f)) ∧ HZ c' = some (CodeO c' q) ∧ tl (WE W σZ) HZ Q)) :
    PSs (cxOf C8.CX0 X.prog X.w X.K X.mg X.base N "_law_error" sg g cdg X.A X.stack s H C8.E0).nox body (fun Dn σZ HZ => σZ = [some (.ref f), none] ∧ HZ c' = some (CodeO c' q) ∧ ∀ E : XK, (∀ cls d H', errX ex Dn.rt cls d H' → E cls d H') → tl E HZ fun _ H2 => Dn.rt (.str Str.empty) H2) := by
  unfold errB at hB
  split at hB
  · rename_i a1 pa pb pc x px n f1 pf ev pe pcl pr ph pt em j pem pret
    simp only [Bool.and_eq_true, decide_eq_true_eq] at hB
    obtain ⟨⟨⟨⟨⟨⟨⟨⟨⟨h1, h2⟩, h3⟩, h4⟩, h5⟩, h6⟩, h7⟩, h8⟩, h9⟩, h10⟩ := hB
    subst h2 h9
    obtain ⟨CS, hCS, hcl⟩ := F.spd
    have TR := L2N.ps_try_as (X := (cxOf C8.CX0 X.prog X.w X.K X.mg X.base N "_law_error" sg g cdg X.A X.stack s H C8.E0).nox) (x := "SpeedError") (n := n) (c := .ref CS) (i := 1) (Wout := fun _ _ _ _ => False) (np := px) (pos := pt) (pos' := ph)
      (tb := fun W Dn σZ HZ => σZ[0]? = some (some (.ref f)) ∧ HZ c' = some (CodeO c' q) ∧ tl (WE W σZ) HZ fun _ H2 => Dn.nx σZ H2)
      (ts := fun a cls d Dn σ H => d = none ∧ σ[1]? = some (some (.ref a)) ∧ ∃ n nm, cls = ex n ∧ errN n = some nm ∧ ∀ H3, Same H H3 → Dn.rt (.str nm) H3)
      (body := [.Expr (.Call (.Name a1 pa) [] [] pb) pc]) (suite := []) (b₀ := .Return (some (.Call (.Name f1 pf) [.Name ev pe] [] pcl)) pr)
      rfl rfl nd h4 h5 ⟨gl_of rfl h3, by decide, .inl hCS⟩ (fun _ _ ⟨_, _, _, _, _, _, _, _, _, _, _, _, _, _, _, _, z⟩ => z.elim)
      (fun W pn xe tk _ => pssImp (pss_one (ps_expr (act W pn xe a1 pa pb h1 tk) (by rfl))) fun Dn σZ HZ z => z)
      (fun a oe cls d pn hz hd => err_suite (Z := (cxOf C8.CX0 X.prog X.w X.K X.mg X.base N "_law_error" sg g cdg X.A X.stack s H C8.E0).nox) F rfl rfl ((L2H.roomH_of hr).mono (by omega)) h6 h7 h8 cls d hz hd)
    refine pssImp (pss_cons TR (pss_one (ps_ret pe_str))) fun Dn σZ HZ ⟨eσ, ec, hq⟩ => ?_
    subst eσ
    refine ⟨rfl, ec, hq _ fun cls d H' ⟨ed, n, nm, e1, e2, e3⟩ => ?_⟩
    obtain ⟨D, bs, eD, _, hx, _⟩ := hcl n nm e2
    exact ⟨true, by rw [e1, eD]; exact hx, fun _ a ha => ⟨ed, rfl, n, nm, e1, e2, e3⟩, fun z => nomatch z⟩
  · cases hB
/-- error(lambda: e) -/
theorem pe_err {G : Wd} {lv : Nat} {params : Arguments} {body : Expr} {scope : Scope} {t : XK → TE} {p lpos pos : Pos} (LF : LamF G ex lv X) (hg : glbB X.env.scope "_law_error" = true) (hpar : lamPB params = true) (hL : lamSB X.env.scope scope = true)
    (hbody : ∀ (A : Around) (outer : List Env) (s : Shared) (H : Hp) (E : XK) (f c' : Addr), Room lv (A.deeper (lamEnv X scope s.heap.objs.size f c')) → PE (lamCxN X A outer s H E scope f c') body (t E)) :
    PE X (.Call (.Name "_law_error" p) [.Lambda params body scope lpos] [] pos) (fun σ H Q => Tabs G.T H ∧ ∀ H1, ExtN H H1 → TabK H H1 → Tabs G.T H1 → ∀ E : XK, (∀ cls d H', errX ex Q cls d H' → E cls d H') → t E σ H1 fun _ H2 => Q (.str Str.empty) H2) := by
  obtain ⟨c, P, TB, hcode, hmT, hu⟩ := LF.tab
  obtain ⟨N, pa, st, g, fd, Fn, hm, hb, S, hB⟩ := LF.err.err
  have L := lamS_by hL
  have epar : params = ⟨[], [], none, [], [], none, []⟩ := by
    unfold lamPB at hpar
    split at hpar
    · rfl
    · cases hpar
  subst epar
  refine ⟨fun pins s σ H Q I ⟨hT, h⟩ => ?_⟩
  refine wpAny_Call_Name_kw (ld_glob I (gl_of rfl hg) hm ?_ (by decide))
  refine PySem.W.callWith_K (h₀ := X.base) I.ok.mod.kin Fn.kp ?_ (by rfl) (by rfl)
  show wpAny _ _ (spliced ((false, eval (.Lambda ⟨[], [], none, [], [], none, []⟩ body scope lpos) X.env) :: backTo pos (starEach [] X.env))) _ _ s
  refine Calls.spliced_cons (lam_make3 I TB hcode hmT hu hT (by rfl) (L.has I.ok) fun f c' pm' ctv H1 s' I1 eN tK T1 hf hfn hfr hco => Calls.spliced_nil ⟨I1.kIn, ?_⟩)
  obtain ⟨oc, od, dV, kV, doc, pm, an, cdv, ct, osl, efd, lk, hcd, _, _⟩ := Fn.ex
  have rc : codeAny (model X.prog X.w) X.A (.call (.ref g) ⟨[.ref f], []⟩) (CR C8.CX0 X.stack X.prog X.w H1 s' Q C8.E0) s' := by
    have b := hb s' [.ref f] I1.kIn rfl
    rw [List.append_nil, efd] at b
    rw [efd] at lk
    refine run_ofS (N := N) (ps := [pa]) (us := [.ref f]) (vs := [.ref f]) lk hcd S LF.room I1.env0 b (.cons rfl .nil) rfl fun hr' => ?_
    have body := err_body (X := X) (ex := ex) (N := N) (sg := defScope st) (body := defBody st) (g := g) (f := f) (c' := c') (cdg := cdv) (s := s') (H := H1) (q := X.env.qual ++ "<lambda>") (k := lv) (tl := fun E H' Q' => t E σ H' Q') LF.err S.nd hr' hB
      (fun W pn xe a p1 p2 ha tk => by
        obtain ⟨v1, v2, v3, v4⟩ := vis_of (X := cxOf C8.CX0 X.prog X.w X.K X.mg X.base N "_law_error" (defScope st) g cdv X.A X.stack s' H1 C8.E0) rfl rfl ha
        exact pe_actN (i := 0) I1 L hf hfn hfr (by rfl) tk hr' (fun A outer s H E hr2 => hbody A outer s H E f c' hr2) v1 v2 v3 v4)
    refine ⟨_, body.nox, ?_, hco, fun E hE => h H1 eN tK T1 E hE⟩
    unfold L2.start
    rw [show N.length = 2 from errB_len hB]; rfl
  refine wpAny_call (codeAny_mono rc fun r s2 hq => ?_)
  cases r with
  | error e => exact (show False from hq).elim
  | ok fl =>
    cases fl with
    | ret u => exact I1.after hq
    | next => exact False.elim hq
    | brk => exact False.elim hq
    | cont => exact False.elim hq
end
end Pv
end
section
set_option Elab.async false
set_option linter.all false
set_option maxRecDepth 100000
set_option maxHeartbeats 4000000
namespace Pv
open PySem PySem.Spec PyProof.Rows L2 HotX LamX

theorem bind_post {α β : Type} {m : M α} {f : α → M β} {ρ : Ro} {s : So} {k : β → Ro → So → Prop} {e : Nat → Ro → So → Prop} (h : (m ρ s).post (fun a ρ1 s1 => (f a ρ1 s1).post k e) e) : (m.bind f ρ s).post k e := by
  unfold M.bind
  cases q : m ρ s with
  | ok a ρ1 s1 => rw [q] at h; exact h
  | ex c ρ1 s1 => rw [q] at h; exact h
  | bad => rw [q] at h; exact h
section
variable {G : Wd} {μ0 μ : List Addr} {H0 H H' : Hp} {σ : L2.St} {ρ : Ro} {S : So}
theorem ExtN.keep' {H H' : Hp} (e : ExtN H H') : Keep H H' := ⟨fun a xs h => e _ _ h (fun _ z => by cases z), fun a o u h => e _ _ h (fun _ z => by cases z)⟩
theorem Jn.extN (J : Jn G μ0 H0 μ σ H ρ S) (e : ExtN H H') (t : TabK H H') (tb : Tabs G.T H') : Jn G μ0 H0 μ σ H' ρ S := by
  have k := ExtN.keep' e
  refine ⟨J.len, fun i d z => ?_, fun i ds z => ?_, ⟨J.cells.len, J.cells.nd, fun n a c h1 h2 => ?_⟩, tb, J.pre, J.new, ⟨fun b o h1 h2 h3 => e _ _ (J.frm.stay b o h1 h2 h3) h3, fun b ps h => ?_⟩⟩
  · obtain ⟨v, h1, h2⟩ := J.sh i d z
    exact ⟨v, h1, Rel.mono (List.prefix_refl _) k _ _ h2⟩
  · obtain ⟨p, vs, h1, h2, h3, h4⟩ := J.ow i ds z
    exact ⟨p, vs, h1, e _ _ h2 (fun _ z => by cases z), RelL.mono (List.prefix_refl _) k _ _ h3, h4⟩
  · have x := J.cells.at_ n a c h1 h2
    cases c with
    | lst ds => obtain ⟨vs, h, r⟩ := x; exact ⟨vs, e _ _ h (fun _ z => by cases z), RelL.mono (List.prefix_refl _) k _ _ r⟩
    | ins c fs => obtain ⟨dx, vs, h, r⟩ := x; exact ⟨dx, vs, e _ _ h (fun _ z => by cases z), RelL.mono (List.prefix_refl _) k _ _ r⟩
  · obtain ⟨m, z⟩ := J.frm.tbl b ps h
    obtain ⟨m2, z2⟩ := t b _ z
    exact ⟨m ++ m2, by rw [z2, Array.append_assoc]⟩
end
section
variable {G : Wd} {ex : Nat → Value} {μ0 : List Addr} {H0 : Hp} {W : WX} {X : Cx} {a b : Expr} {ma mb : M D} {pos : Pos}
theorem s_rv (hK : X.K = G.K) {p1 p2 p3 : Pos} (ha : SE G ex μ0 H0 W X a ma) : SE G ex μ0 H0 W X (.Subscript a (.Slice none none (some (.UnaryOp .USub (.Constant (.int 1) 0 p1) p2)) p3) pos) (ma.bind fun x => M.of (rvD x)) := by
  refine PE.imp (pe_rev ha) fun σ H Q ⟨μ, h⟩ => ⟨μ, (TMa.bind h).imp fun v H1 ⟨d, μ1, p1, k1, r1, h1⟩ => ?_⟩
  obtain ⟨z, e, q⟩ := h1.of
  cases d with
  | tup xs =>
    simp only [rvD, Option.some.injEq] at e
    subst e
    obtain ⟨p, vs, rfl, g1, g2⟩ := rel_tup r1
    exact ⟨p, vs, rfl, hK ▸ g1, fun p' hp => q _ _ (Same.upd hp) (relTup hp g2.reverse)⟩
  | _ => simp [rvD] at e
theorem s_inr {neg : Bool} {lo hi : Int} {px p1 p2 p3 : Pos} (hg : Gl X "range") (hm : X.mg "range" = none) (ha : SE G ex μ0 H0 W X a ma) :
    SE G ex μ0 H0 W X (.Compare a [if neg then .NotIn else .In] [.Call (.Name "range" px) [.Constant (.int lo) 0 p1, .Constant (.int hi) 0 p2] [] p3] pos) (ma.bind fun x => (M.of (asI x)).bind fun i => M.pure (.bl (xor neg (decide (lo ≤ i) && decide (i < hi))))) := by
  refine PE.imp (pe_inr hg hm ha) fun σ H Q ⟨μ, h⟩ => ⟨μ, (TMa.bind h).imp fun v H1 ⟨d, μ1, p1, k1, r1, h1⟩ => ?_⟩
  obtain ⟨ρ, S, J, h2⟩ := h1
  obtain ⟨i, e, q⟩ := post_of (post_bind h2)
  cases d with
  | int j =>
    simp only [asI, Option.some.injEq] at e
    subst e
    exact ⟨j, rel_int r1, q _ _ _ (List.prefix_refl _) (Keep.refl _) J (.bl _)⟩
  | _ => simp [asI] at e
theorem t_inr {neg : Bool} {lo hi : Int} {px p1 p2 p3 : Pos} (hg : Gl X "range") (hm : X.mg "range" = none) (ha : SE G ex μ0 H0 W X a ma) :
    ST G ex μ0 H0 W X (.Compare a [if neg then .NotIn else .In] [.Call (.Name "range" px) [.Constant (.int lo) 0 p1, .Constant (.int hi) 0 p2] [] p3] pos) (tst (ma.bind fun x => (M.of (asI x)).bind fun i => M.pure (.bl (xor neg (decide (lo ≤ i) && decide (i < hi)))))) := by
  refine PT.imp (pt_inr hg hm ha) fun σ H Q ⟨μ, x⟩ => ⟨μ, (TMa.bind (TMa.tst x)).imp fun v H1 ⟨d, μ1, p1, k1, r1, h1⟩ => ?_⟩
  obtain ⟨ρ, S, J, h2⟩ := h1
  obtain ⟨i, e, q⟩ := post_of (post_bind h2)
  cases d with
  | int j =>
    simp only [asI, Option.some.injEq] at e
    subst e
    obtain ⟨k, ek, qk⟩ := q _ _ _ (List.prefix_refl _) (Keep.refl _) J (.bl _)
    cases ek
    exact ⟨j, rel_int r1, qk⟩
  | _ => simp [asI] at e
theorem idx_spec {μ : List Addr} {H : Hp} {v : V} {y : D} (r : Rel G μ H v y) (f : flatD y = true) : ∀ {vs : List V} {xs : List D} {j : Nat}, RelL G μ H vs xs → xs.all flatD = true → (xs.findIdx? fun x => eqF x y) = some j → ∃ z, vs[j]? = some z ∧ eqV z v = true ∧ ∀ (m : Nat) (z' : V), m < j → vs[m]? = some z' → eqV z' v = false
  | _, _, _, .nil, _, e => by simp at e
  | _, _, j, .cons (v := w) (vs := ws) (d := d) (ds := ds) r1 t, fa, e => by
    rw [List.all_cons, Bool.and_eq_true] at fa
    rw [List.findIdx?_cons] at e
    have hw := flat_eq r1 r fa.1 f
    by_cases h : eqF d y = true
    · rw [if_pos h] at e
      cases e
      exact ⟨w, rfl, by rw [← hw]; exact h, fun m z' hm => absurd hm (by omega)⟩
    · rw [if_neg h] at e
      simp only [Option.map_eq_some_iff] at e
      obtain ⟨k, ek, rfl⟩ := e
      obtain ⟨z, h1, h2, h3⟩ := idx_spec r f t fa.2 ek
      refine ⟨z, by simpa using h1, h2, fun m z' hm hz => ?_⟩
      cases m with
      | zero =>
        simp at hz
        subst hz
        rw [← hw]
        simpa using h
      | succ m => exact h3 m z' (by omega) (by simpa using hz)
/-- x.index(e) -/
theorem s_idx (hK : X.K = G.K) {x : Str} {px apos : Pos} (ha : SE G ex μ0 H0 W X (.Name x px) ma) (hb : SE G ex μ0 H0 W X b mb) (hst : notStar b = true) (hline : (apos.endLine == pos.line) = true) :
    SE G ex μ0 H0 W X (.Call (.Attribute (.Name x px) "index" apos) [b] [] pos) (ma.bind fun x => (M.of (asLst x)).bind fun xs => mb.bind fun y => M.of (idxD (.lst xs) y)) := by
  have base := pe_bm (cpos := pos) (apos := apos) PySem.F.plainAttrs_list PySem.F.slot_list_index PySem.F.type_list_index mt_index ha (pa_cons hb pa_nil (starEach_cons hst)) (hline := hline) (hs := starEach_cons hst) (hfew := by rw [starEach_cons hst]; rfl)
  refine PE.imp base fun σ H Q ⟨μ, h⟩ => ⟨μ, (TMa.bind h).imp fun v H1 ⟨d, μ1, p1, k1, r1, h1⟩ => ?_⟩
  obtain ⟨ρ1, S1, J1, h1⟩ := h1
  obtain ⟨xs, ex1, h1⟩ := post_of (post_bind h1)
  cases d with
  | lst xs' =>
    simp only [asLst, Option.some.injEq] at ex1
    subst ex1
    obtain ⟨a, vs, rfl, q1, q2⟩ := rel_lst r1
    have h1 : TMa G ex μ0 H0 W (Rel G) μ1 (mb.bind fun y => M.of (idxD (.lst xs') y)) σ H1 Q := ⟨ρ1, S1, J1, h1⟩
    refine ⟨.inl ⟨rfl, _, q1.sq⟩, μ1, (TMa.bind h1).imp fun w H2 ⟨y, μ2, p2, k2, r2, h2⟩ => ?_⟩
    obtain ⟨z, e, q⟩ := h2.of
    simp only [idxD] at e
    split at e
    · rename_i hc
      rw [Bool.and_eq_true] at hc
      obtain ⟨j, ej, rfl⟩ := Option.map_eq_some_iff.mp e
      have q2' := RelL.mono p2 k2 _ _ q2
      obtain ⟨z, g1, g2, g3⟩ := idx_spec r2 hc.1 q2' hc.2 ej
      exact ⟨a, vs, w, j, z, rfl, rfl, (k2.fz q1).sq, flat_V r2 hc.1, flat_all q2' hc.2, g1, g2, g3, q _ _ Same.rfl' (.int _)⟩
    · cases e
  | _ => simp [asLst] at ex1
theorem s_err {Γ : Nm} {F : Nat → List D → So → FR} {gl : Nat → Option D} {lv : Nat} {N : List Str} {sc ls : Scope} {top : Bool} {f : Nat} {x : Str} {es : List Expr} {ms : M (List D)} {pr : Arguments} {pn px pc pl : Pos} (c : Ctxt G ex Γ F gl lv X N sc top) (LF : LamF G ex lv X) (h2 : glbB sc "_law_error" = true) (h3 : lamPB pr = true) (h4 : LamX.lamSB sc ls = true)
    (h5 : Γ.fn[f]? = some x) (h6 : glbB ls x = true) (h7 : (x == ("__debug__" : Str)) = false) (h9 : glbB ls "_law_error" = false) (hs : ∀ {Y : Cx} {W : WX}, Ctxt G ex Γ F gl lv Y N ls false → L2N.Takes Y W → SEs G ex μ0 H0 W Y es ms ∧ es.all notStar = true ∧ (es = [] → ms = M.pure [])) :
    SE G ex μ0 H0 W X (.Call (.Name "_law_error" pn) [.Lambda pr (.Call (.Name x px) es [] pc) ls pl] [] pos) ((noEx ms).bind fun ds => errM (F f) ds) := by
  have hsc := c.sc
  have body : ∀ (A : Around) (outer : List Env) (s : Shared) (H : Hp) (E : XK) (g c' : Addr), Room lv (A.deeper (lamEnv X ls s.heap.objs.size g c')) → PE (lamCxN X A outer s H E ls g c') (.Call (.Name x px) es [] pc) (fun σ H Q => TM G ex μ0 H0 (fun cls d _ H => E cls d H) (Rel G) (ms.bind fun ds => callM (F f) ds) σ H Q) := fun A outer s H E g c' hr => by
    have C : Ctxt G ex Γ F gl lv (lamCxN X A outer s H E ls g c') N ls false := ⟨c.K, c.NN, c.nd, rfl, rfl, hr, c.fns, c.blt, c.gls, (fun z => nomatch z), fun _ z => by
      have z : glbB ls "_law_error" = true := z
      rw [h9] at z; cases z⟩
    have tk : L2N.Takes (lamCxN X A outer s H E ls g c') (fun cls d _ H => E cls d H) := L2N.takes_of rfl rfl rfl rfl
    obtain ⟨k1, k2, k3⟩ := hs C tk
    exact s_call C tk h5 (gl_of rfl h6) h7 k1 k2 k3
  refine PE.imp (pe_err LF (by rw [hsc]; exact h2) h3 (by rw [hsc]; exact h4) body) fun σ H Q ⟨μ, ρ, S, J, h⟩ => ⟨J.tabs, fun H1 e t tb E hE => ?_⟩
  have k0 := ExtN.keep' e
  refine ⟨μ, ρ, S, J.extN e t tb, bind_post ?_⟩
  have h := post_bind h
  unfold noEx at h
  cases q : ms ρ S with
  | bad => rw [q] at h; exact h.elim
  | ex c ρ1 S1 => rw [q] at h; exact h.elim
  | ok ds ρ1 S1 =>
    rw [q] at h
    show (callM (F f) ds ρ1 S1).post _ _
    have h : (errM (F f) ds ρ1 S1).post _ _ := h
    unfold errM at h
    unfold callM
    cases q2 : F f ds S1 with
    | bad => rw [q2] at h; exact h.elim
    | ok d S2 => rw [q2] at h; exact fun v H' μ' p k J' r => h _ H' μ' p (k0.trans k) J' (.str _)
    | own xs S2 => rw [q2] at h; exact fun v H' μ' p k J' r => h _ H' μ' p (k0.trans k) J' (.str _)
    | ex cc S2 =>
      rw [q2] at h
      cases q3 : errN cc with
      | none => simp only [q3] at h; exact h.elim
      | some nm =>
        simp only [q3] at h
        exact fun H' μ' p k J' => hE _ _ _ ⟨rfl, cc, nm, rfl, q3, fun H3 s3 => h _ H3 μ' p (k0.trans (k.trans s3.keep)) (J'.same s3) (.str _)⟩
end
end Pv
end
section
set_option Elab.async false
set_option linter.all false
set_option maxRecDepth 100000
set_option maxHeartbeats 16000000
namespace Pv
open PySem PySem.Spec PyProof.Rows L2
section
variable {G : Wd} {ex : Nat → Value} {Γ : Nm} {F : Nat → List D → So → FR} {gl : Nat → Option D} {lv : Nat} {N : List Str}
theorem ownOf_snd (N : List Str) (l : List Nat) : (ownOf N l).map (·.2) = l := by
  unfold ownOf
  rw [List.map_map]
  exact List.map_id _
abbrev nf {P : Prop} (h : false = true) : P := Bool.noConfusion h
mutual
theorem sE : ∀ (e : E) (p : Expr) {X : Cx} {sc : Scope} {top : Bool} {μ0 : List Addr} {H0 : Hp} {W : WX} (c : Ctxt G ex Γ F gl lv X N sc top) (tk : L2N.Takes X W), ckE Γ N e sc p = true → Sd G ex μ0 H0 W X p (ev F gl e) (frE e)
  | .vr i, p, X, sc, top, μ0, H0, W, c, tk, h => by
    cases p with
    | Name x pos =>
      obtain ⟨h1, h2, h3, h4⟩ := c.vis (show varB N sc i x = true from h)
      exact .val (s_vr h1 h2 h3 h4) (by intro _; rfl) rfl
    | _ => exact nf h
  | .fz i, p, X, sc, top, μ0, H0, W, c, tk, h => by
    cases p with
    | Name x pos =>
      obtain ⟨h1, h2, h3, h4⟩ := c.vis (show varB N sc i x = true from h)
      exact .val (s_fz h1 h2 h3 h4) (by intro _; rfl) rfl
    | _ => exact nf h
  | .non, p, X, sc, top, μ0, H0, W, c, tk, h => by
    cases p with
    | Constant v k pos =>
      cases v with
      | none => exact .val (s_pure pe_non fun _ _ => .non) (by intro _; rfl) rfl
      | _ => exact nf h
    | _ => exact nf h
  | .bl b, p, X, sc, top, μ0, H0, W, c, tk, h => by
    cases p with
    | Constant v k pos =>
      cases v with
      | bool b' =>
        obtain rfl : b = b' := of_decide_eq_true h
        exact .val (s_pure pe_bl fun _ _ => .bl b) (by intro _; rfl) rfl
      | _ => exact nf h
    | _ => exact nf h
  | .int i, p, X, sc, top, μ0, H0, W, c, tk, h => by
    cases p with
    | Constant v k pos =>
      cases v with
      | int b' =>
        obtain rfl : i = b' := of_decide_eq_true h
        exact .val (s_pure pe_int fun _ _ => .int i) (by intro _; rfl) rfl
      | _ => exact nf h
    | _ => exact nf h
  | .str i, p, X, sc, top, μ0, H0, W, c, tk, h => by
    cases p with
    | Constant v k pos =>
      cases v with
      | str b' =>
        obtain rfl : i = b' := of_decide_eq_true h
        exact .val (s_pure pe_str fun _ _ => .str i) (by intro _; rfl) rfl
      | _ => exact nf h
    | _ => exact nf h
  | .gl k, p, X, sc, top, μ0, H0, W, c, tk, h => by
    cases p with
    | Name x pos =>
      have h : (decide (Γ.gl[k]? = some x) && glbB sc x && !(x == ("__debug__" : Str))) = true := h
      simp only [Bool.and_eq_true, decide_eq_true_eq, Bool.not_eq_true'] at h
      refine .val (s_gl fun d hd => ?_) (by intro _; rfl) rfl
      obtain ⟨u, v, h1, h2, h3⟩ := c.gls k x d h.1.1 hd
      exact ⟨v, pe_glob (c.glb h.1.2) h1 h2 h.2, h3⟩
    | _ => exact nf h
  | .tup es, p, X, sc, top, μ0, H0, W, c, tk, h => by
    cases p with
    | Tuple ps k pos =>
      exact .val (s_tup (sEs es ps c tk h).1) (by intro _; rfl) rfl
    | _ => exact nf h
  | .lst es, p, X, sc, top, μ0, H0, W, c, tk, h => by
    cases p with
    | List ps pos =>
      exact .fre (s_lstF (sEs es ps c tk h).1) lists_lst (by intro _; rfl) rfl
    | _ => exact nf h
  | .bin o a b, p, X, sc, top, μ0, H0, W, c, tk, h => by
    cases p with
    | BinOp pa op pb pos =>
      have h : (decide (o.py = op) && ckE Γ N a sc pa && ckE Γ N b sc pb) = true := h
      simp only [Bool.and_eq_true, decide_eq_true_eq] at h
      obtain ⟨⟨rfl, h1⟩, h2⟩ := h
      have A := sE (μ0 := μ0) (H0 := H0) a pa c tk h1
      have B := sE (μ0 := μ0) (H0 := H0) b pb c tk h2
      have S := s_bin (pos := pos) (o := o) c.K A.se B.se
      refine ⟨S, fun _ => t_val S (by intro _; rfl), fun z => nf z, fun z => ?_⟩
      have z : decide (o = .add) = true := z
      obtain rfl := of_decide_eq_true z
      exact s_addF c.K A.se B.se
    | _ => exact nf h
  | .pow i j, p, X, sc, top, μ0, H0, W, c, tk, h => by
    cases p with
    | BinOp pa op pb pos =>
      match pa, op, pb, h with
      | .Constant (.int i') k1 p1, .Pow, .Constant (.int j') k2 p2, h =>
        have h : (decide (i = i') && decide (j = j')) = true := h
        simp only [Bool.and_eq_true, decide_eq_true_eq] at h
        obtain ⟨rfl, rfl⟩ := h
        exact .val s_pow (by intro _; rfl) rfl
    | _ => exact nf h
  | .neg a, p, X, sc, top, μ0, H0, W, c, tk, h => by
    cases p with
    | UnaryOp op pa pos =>
      cases op with
      | USub => exact .val (s_neg (sE a pa c tk h).se) (by intro _; rfl) rfl
      | _ => exact nf h
    | _ => exact nf h
  | .cmp o a b, p, X, sc, top, μ0, H0, W, c, tk, h => by
    cases p with
    | Compare pa ops ps pos =>
      match ops, ps, h with
      | [op], [pb], h =>
        have h : (decide (o.py = op) && ckE Γ N a sc pa && ckE Γ N b sc pb && !(behindInMarks op pb)) = true := h
        simp only [Bool.and_eq_true, decide_eq_true_eq, Bool.not_eq_true'] at h
        obtain ⟨⟨⟨rfl, h1⟩, h2⟩, h3⟩ := h
        exact .tes (s_cmp c.K c.hu (sE a pa c tk h1).se (sE b pb c tk h2).se h3) (t_cmp c.K c.hu (sE a pa c tk h1).se (sE b pb c tk h2).se h3) rfl
    | _ => exact nf h
  | .chn o1 o2 a b d, p, X, sc, top, μ0, H0, W, c, tk, h => by
    cases p with
    | Compare pa ops ps pos =>
      match ops, ps, h with
      | [op1, op2], [pb, pd], h =>
        have h : (decide (o1.py = op1) && decide (o2.py = op2) && ckE Γ N a sc pa && ckE Γ N b sc pb && ckE Γ N d sc pd && !(lastMarks [op1, op2] [pb, pd])) = true := h
        simp only [Bool.and_eq_true, decide_eq_true_eq, Bool.not_eq_true'] at h
        obtain ⟨⟨⟨⟨⟨rfl, rfl⟩, h1⟩, h2⟩, h3⟩, h4⟩ := h
        exact .tes (s_chn c.K c.hu (sE a pa c tk h1).se (sE b pb c tk h2).se (sE d pd c tk h3).se h4) (t_chn c.K c.hu (sE a pa c tk h1).se (sE b pb c tk h2).se (sE d pd c tk h3).se h4) rfl
    | _ => exact nf h
  | .isn neg a, p, X, sc, top, μ0, H0, W, c, tk, h => by
    cases p with
    | Compare pa ops ps pos =>
      match ops, ps, h with
      | [op], [.Constant .none k p2], h =>
        have h : (decide (op = if neg then .IsNot else .Is) && ckE Γ N a sc pa) = true := h
        simp only [Bool.and_eq_true, decide_eq_true_eq] at h
        obtain ⟨rfl, h1⟩ := h
        exact .tes (s_isn neg (sE a pa c tk h1).se) (t_isn neg (sE a pa c tk h1).se) rfl
    | _ => exact nf h
  | .isb neg a t, p, X, sc, top, μ0, H0, W, c, tk, h => by
    cases p with
    | Compare pa ops ps pos =>
      match ops, ps, h with
      | [op], [.Constant (.bool t') k p2], h =>
        have h : (decide (op = if neg then .IsNot else .Is) && ckE Γ N a sc pa && decide (t = t')) = true := h
        simp only [Bool.and_eq_true, decide_eq_true_eq] at h
        obtain ⟨⟨rfl, h1⟩, rfl⟩ := h
        exact .tes (s_isb neg (sE a pa c tk h1).se) (t_isb neg (sE a pa c tk h1).se) rfl
    | _ => exact nf h
  | .and a b, p, X, sc, top, μ0, H0, W, c, tk, h => by
    cases p with
    | BoolOp op vs pos =>
      match op, vs, h with
      | .And, x :: y :: r, h =>
        have h : (ckE Γ N a sc x && notIf x && ckE Γ N b sc (.BoolOp .And (y :: r) pos)) = true := h
        simp only [Bool.and_eq_true] at h
        have A := sE (μ0 := μ0) (H0 := H0) a x c tk h.1.1
        have B := sE (μ0 := μ0) (H0 := H0) b (.BoolOp .And (y :: r) pos) c tk h.2
        refine .bo (s_and A.se B.se) ?_
        show PW X _ (TM G ex μ0 H0 W RB (tst ((tst (ev F gl a)).bind fun t => if t then ev F gl b else M.pure (.bl false))))
        rw [tst_and]
        exact w_and (A.st h.1.2) (B.pw rfl)
    | _ => exact nf h
  | .or a b, p, X, sc, top, μ0, H0, W, c, tk, h => by
    cases p with
    | BoolOp op vs pos =>
      match op, vs, h with
      | .Or, x :: y :: r, h =>
        have h : (ckE Γ N a sc x && notIf x && ckE Γ N b sc (.BoolOp .Or (y :: r) pos)) = true := h
        simp only [Bool.and_eq_true] at h
        have A := sE (μ0 := μ0) (H0 := H0) a x c tk h.1.1
        have B := sE (μ0 := μ0) (H0 := H0) b (.BoolOp .Or (y :: r) pos) c tk h.2
        refine .bo (s_or A.se B.se) ?_
        show PW X _ (TM G ex μ0 H0 W RB (tst ((tst (ev F gl a)).bind fun t => if t then M.pure (.bl true) else ev F gl b)))
        rw [tst_or]
        exact w_or (A.st h.1.2) (B.pw rfl)
    | _ => exact nf h
  | .one a, p, X, sc, top, μ0, H0, W, c, tk, h => by
    cases p with
    | BoolOp op vs pos =>
      match vs, h with
      | [y], h =>
        have h : (ckE Γ N a sc y && notIf y) = true := h
        simp only [Bool.and_eq_true] at h
        have A := sE (μ0 := μ0) (H0 := H0) a y c tk h.1
        refine ⟨pe_one A.se, fun _ => (w_one (A.st h.2)).pt, fun _ => w_one (A.st h.2), fun z => nf z⟩
    | _ => exact nf h
  | .not a, p, X, sc, top, μ0, H0, W, c, tk, h => by
    cases p with
    | UnaryOp op pa pos =>
      match op, h with
      | .Not, h =>
        have h : (ckE Γ N a sc pa && notIf pa) = true := h
        simp only [Bool.and_eq_true] at h
        have A := sE (μ0 := μ0) (H0 := H0) a pa c tk h.1
        refine .tes (s_not A.se) ?_ rfl
        show PT X _ (TM G ex μ0 H0 W RB (tst ((tst (ev F gl a)).bind fun t => M.pure (.bl (!t)))))
        rw [tst_not]
        exact t_not (A.st h.2)
    | _ => exact nf h
  | .ife d a b, p, X, sc, top, μ0, H0, W, c, tk, h => by
    cases p with
    | IfExp pd pa pb pos =>
      have h : (ckE Γ N d sc pd && notIf pd && ckE Γ N a sc pa && ckE Γ N b sc pb) = true := h
      simp only [Bool.and_eq_true] at h
      exact ⟨s_ife ((sE d pd c tk h.1.1.1).st h.1.1.2) (sE a pa c tk h.1.2).se (sE b pb c tk h.2).se, fun z => nf z, fun z => nf z, fun z => nf z⟩
    | _ => exact nf h
  | .ix a i, p, X, sc, top, μ0, H0, W, c, tk, h => by
    cases p with
    | Subscript pa pi pos =>
      have h : (ckE Γ N a sc pa && ckE Γ N i sc pi && notSlice pi) = true := h
      simp only [Bool.and_eq_true] at h
      exact .val (s_ix c.K (sE a pa c tk h.1.1).se (sE i pi c tk h.1.2).se h.2) (by intro _; rfl) rfl
    | _ => exact nf h
  | .ixo n i, p, X, sc, top, μ0, H0, W, c, tk, h => by
    cases p with
    | Subscript pa pi pos =>
      match pa, h with
      | .Name x px, h =>
        have h : (varB N sc n x && ckE Γ N i sc pi && notSlice pi) = true := h
        simp only [Bool.and_eq_true] at h
        obtain ⟨h1, h2, h3, h4⟩ := c.vis h.1.1
        exact .val (s_ixo c.K h1 h2 h3 h4 (sE i pi c tk h.1.2).se h.2) (by intro _; rfl) rfl
    | _ => exact nf h
  | .leno n, p, X, sc, top, μ0, H0, W, c, tk, h => by
    cases p with
    | Call f ps ks pos =>
      match f, ps, ks, h with
      | .Name f pf, [.Name x px], [], h =>
        have h : (decide (f = "len") && glbB sc "len" && varB N sc n x) = true := h
        simp only [Bool.and_eq_true, decide_eq_true_eq] at h
        obtain ⟨⟨rfl, hg⟩, hv⟩ := h
        obtain ⟨h1, h2, h3, h4⟩ := c.vis hv
        exact .val (s_leno c.K (c.glb hg) (c.blt "len" (by decide +kernel)) h1 h2 h3 h4) (by intro _; rfl) rfl
    | _ => exact nf h
  | .tupo n, p, X, sc, top, μ0, H0, W, c, tk, h => by
    cases p with
    | Call f ps ks pos =>
      match f, ps, ks, h with
      | .Name f pf, [.Name x px], [], h =>
        have h : (decide (f = "tuple") && glbB sc "tuple" && varB N sc n x) = true := h
        simp only [Bool.and_eq_true, decide_eq_true_eq] at h
        obtain ⟨⟨rfl, hg⟩, hv⟩ := h
        obtain ⟨h1, h2, h3, h4⟩ := c.vis hv
        exact .val (s_tupo c.K (c.glb hg) (c.blt "tuple" (by decide +kernel)) h1 h2 h3 h4) (by intro _; rfl) rfl
    | _ => exact nf h
  | .emo neg n, p, X, sc, top, μ0, H0, W, c, tk, h => by
    cases p with
    | Compare pa ops ps pos =>
      match pa, ops, ps, h with
      | .Name x px, [op], [.List [] p2], h =>
        have h : (decide (op = if neg then .NotEq else .Eq) && varB N sc n x) = true := h
        simp only [Bool.and_eq_true, decide_eq_true_eq] at h
        obtain ⟨rfl, hv⟩ := h
        obtain ⟨h1, h2, h3, h4⟩ := c.vis hv
        have A := cmp_nil (G := G) (ex := ex) (μ0 := μ0) (H0 := H0) (W := W) (px := px) (pos := pos) (p2 := p2) neg c.K c.hu h1 h2 h3 h4 (nil_ow (neg := neg) (n := n))
        exact .tes A.1 A.2 rfl
    | _ => exact nf h
  | .emc neg n, p, X, sc, top, μ0, H0, W, c, tk, h => by
    cases p with
    | Compare pa ops ps pos =>
      match pa, ops, ps, h with
      | .Name x px, [op], [.List [] p2], h =>
        have h : (decide (op = if neg then .NotEq else .Eq) && varB N sc n x) = true := h
        simp only [Bool.and_eq_true, decide_eq_true_eq] at h
        obtain ⟨rfl, hv⟩ := h
        obtain ⟨h1, h2, h3, h4⟩ := c.vis hv
        have A := cmp_nil (G := G) (ex := ex) (μ0 := μ0) (H0 := H0) (W := W) (px := px) (pos := pos) (p2 := p2) neg c.K c.hu h1 h2 h3 h4 (nil_ce (neg := neg) (n := n))
        exact .tes A.1 A.2 rfl
    | _ => exact nf h
  | .sl a lo hi, p, X, sc, top, μ0, H0, W, c, tk, h => by
    cases p with
    | Subscript pa pi pos =>
      match pi, h with
      | .Slice pl ph none p2, h =>
        have h : (ckE Γ N a sc pa && ckO Γ N lo sc pl && ckO Γ N hi sc ph) = true := h
        simp only [Bool.and_eq_true] at h
        exact .val (s_sl c.K (sE a pa c tk h.1.1).se (sO lo pl c tk h.1.2) (sO hi ph c tk h.2)) (by intro _; rfl) rfl
    | _ => exact nf h
  | .rv a, p, X, sc, top, μ0, H0, W, c, tk, h => by
    cases p with
    | Subscript pa pi pos =>
      match pi, h with
      | .Slice none none (some (.UnaryOp .USub (.Constant (.int 1) 0 p1) p2)) p3, h => exact .val (s_rv c.K (sE a pa c tk h).se) (by intro _; rfl) rfl
    | _ => exact nf h
  | .inr neg a lo hi, p, X, sc, top, μ0, H0, W, c, tk, h => by
    cases p with
    | Compare pa ops pbs pos =>
      match ops, pbs, h with
      | [op], [.Call (.Name x px) [.Constant (.int l) 0 p1, .Constant (.int hh) 0 p2] [] p3], h =>
        have h : (decide (op = if neg then .NotIn else .In) && decide (x = "range") && glbB sc "range" && decide (l = lo) && decide (hh = hi) && ckE Γ N a sc pa) = true := h
        simp only [Bool.and_eq_true, decide_eq_true_eq] at h
        obtain ⟨⟨⟨⟨⟨rfl, rfl⟩, h1⟩, rfl⟩, rfl⟩, h2⟩ := h
        exact .tes (s_inr (c.glb h1) (c.blt "range" (by decide +kernel)) (sE a pa c tk h2).se) (t_inr (c.glb h1) (c.blt "range" (by decide +kernel)) (sE a pa c tk h2).se) rfl
    | _ => exact nf h
  | .idx a b, p, X, sc, top, μ0, H0, W, c, tk, h => by
    cases p with
    | Call pf ps ks pos =>
      match pf, ps, ks, h with
      | .Attribute (.Name ix ip) m apos, [pb], [], h =>
        have h : (decide (m = "index") && ckE Γ N a sc (.Name ix ip) && ckE Γ N b sc pb && notStar pb && (apos.endLine == pos.line)) = true := h
        simp only [Bool.and_eq_true, decide_eq_true_eq] at h
        obtain ⟨⟨⟨⟨rfl, h1⟩, h2⟩, h3⟩, h4⟩ := h
        exact .val (s_idx c.K (sE a (.Name ix ip) c tk h1).se (sE b pb c tk h2).se h3 h4) (by intro _; rfl) rfl
    | _ => exact nf h
  | .err f es, p, X, sc, top, μ0, H0, W, c, tk, h => by
    cases p with
    | Call pf ps ks pos =>
      match pf, ps, ks, h with
      | .Name nm pn, [.Lambda pr (.Call (.Name x px) qs [] pc) ls pl], [], h =>
        have h : (Γ.lam && decide (nm = "_law_error") && glbB sc "_law_error" && lamPB pr && LamX.lamSB sc ls && decide (Γ.fn[f]? = some x) && glbB ls x && !(x == ("__debug__" : Str)) && ckEs Γ N es ls qs && !(glbB ls "_law_error")) = true := h
        simp only [Bool.and_eq_true, decide_eq_true_eq, Bool.not_eq_true'] at h
        obtain ⟨⟨⟨⟨⟨⟨⟨⟨⟨h1, rfl⟩, h2⟩, h3⟩, h4⟩, h5⟩, h6⟩, h7⟩, h8⟩, h9⟩ := h
        exact .val (s_err c (c.lam h1 (by rw [c.sc]; exact h2)) h2 h3 h4 h5 h6 h7 h9 fun c' tk' => sEs (μ0 := μ0) (H0 := H0) es qs c' tk' h8) (by intro _; rfl) rfl
    | _ => exact nf h
  | .call f es, p, X, sc, top, μ0, H0, W, c, tk, h => by
    cases p with
    | Call pf ps ks pos =>
      match pf, ks, h with
      | .Name x px, [], h =>
        have h : (decide (Γ.fn[f]? = some x) && glbB sc x && !(x == ("__debug__" : Str)) && ckEs Γ N es sc ps) = true := h
        simp only [Bool.and_eq_true, decide_eq_true_eq, Bool.not_eq_true'] at h
        have A := sEs (μ0 := μ0) (H0 := H0) es ps c tk h.2
        exact .val (s_call c tk h.1.1.1 (c.glb h.1.1.2) h.1.2 A.1 A.2.1 A.2.2) (by intro _; rfl) rfl
    | _ => exact nf h
  | .callo f es, p, X, sc, top, μ0, H0, W, c, tk, h => by
    cases p with
    | Call pf ps ks pos =>
      match pf, ks, h with
      | .Name x px, [], h =>
        have h : (decide (Γ.fn[f]? = some x) && glbB sc x && !(x == ("__debug__" : Str)) && ckEs Γ N es sc ps) = true := h
        simp only [Bool.and_eq_true, decide_eq_true_eq, Bool.not_eq_true'] at h
        have A := sEs (μ0 := μ0) (H0 := H0) es ps c tk h.2
        exact .fre (s_calloF c tk h.1.1.1 (c.glb h.1.1.2) h.1.2 A.1 A.2.1 A.2.2) lists_callo (by intro _; rfl) rfl
    | _ => exact nf h
  | .newc e, p, X, sc, top, μ0, H0, W, c, tk, h => by
    cases p with
    | Call pf ps ks pos =>
      have h : (ckE Γ N e sc (.Call pf ps ks pos) && frE e) = true := h
      simp only [Bool.and_eq_true] at h
      exact .val (s_newc ((sE e (.Call pf ps ks pos) c tk h.1).tf h.2)) (by intro _; rfl) rfl
    | _ => exact nf h
  | .blt b es, p, X, sc, top, μ0, H0, W, c, tk, h => by
    cases p with
    | Call pf ps ks pos =>
      match pf, ks, h with
      | .Name x px, [], h =>
        cases ps with
        | nil =>
          have h : (decide (x = b.nm) && glbB sc x && ckEs Γ N es sc [] && false) = true := h
          rw [Bool.and_false] at h
          exact nf h
        | cons p1 ps =>
          have h : (decide (x = b.nm) && glbB sc x && ckEs Γ N es sc (p1 :: ps) && true) = true := h
          simp only [Bool.and_eq_true, decide_eq_true_eq, and_true] at h
          obtain ⟨⟨rfl, hg⟩, hs⟩ := h
          have A := sEs (μ0 := μ0) (H0 := H0) es (p1 :: ps) c tk hs
          exact .val (s_bltG c b (c.glb hg) A.1 A.2.1) (by intro _; rfl) rfl
    | _ => exact nf h
  | .sst e, p, X, sc, top, μ0, H0, W, c, tk, h => by
    cases p with
    | Call pf ps ks pos =>
      match pf, ps, ks, h with
      | .Name s p1, [.Call (.Name t p2) [pe] [] p3], [], h =>
        have h : (decide (s = "sorted") && decide (t = "set") && glbB sc "sorted" && glbB sc "set" && ckE Γ N e sc pe && notStar pe) = true := h
        simp only [Bool.and_eq_true, decide_eq_true_eq] at h
        obtain ⟨⟨⟨⟨⟨rfl, rfl⟩, h1⟩, h2⟩, h3⟩, h4⟩ := h
        exact .val (s_sst c.K c.calm c.hu (c.glb h1) (c.blt "sorted" (by decide +kernel)) (c.glb h2) (c.blt "set" (by decide +kernel)) (sE e pe c tk h3).se h4) (by intro _; rfl) rfl
    | _ => exact nf h
  | .sln e, p, X, sc, top, μ0, H0, W, c, tk, h => by
    cases p with
    | Call pf ps ks pos =>
      match pf, ps, ks, h with
      | .Name s p1, [.Call (.Name t p2) [pe] [] p3], [], h =>
        have h : (decide (s = "len") && decide (t = "set") && glbB sc "len" && glbB sc "set" && ckE Γ N e sc pe && notStar pe) = true := h
        simp only [Bool.and_eq_true, decide_eq_true_eq] at h
        obtain ⟨⟨⟨⟨⟨rfl, rfl⟩, h1⟩, h2⟩, h3⟩, h4⟩ := h
        exact .val (s_sln c.K c.calm c.hu (c.glb h1) (c.blt "len" (by decide +kernel)) (c.glb h2) (c.blt "set" (by decide +kernel)) (sE e pe c tk h3).se h4) (by intro _; rfl) rfl
    | _ => exact nf h
  | .isi a t, p, X, sc, top, μ0, H0, W, c, tk, h => by
    cases p with
    | Call pf ps ks pos =>
      match pf, ps, ks, h with
      | .Name f px, [pa, .Name x p2], [], h =>
        have h : (decide (f = "isinstance") && glbB sc "isinstance" && decide (x = t.nm) && glbB sc x && ckE Γ N a sc pa && notStar pa) = true := h
        simp only [Bool.and_eq_true, decide_eq_true_eq] at h
        obtain ⟨⟨⟨⟨⟨rfl, h1⟩, rfl⟩, h2⟩, h3⟩, h4⟩ := h
        exact .val (s_isi c.K (c.glb h1) (c.blt "isinstance" (by decide +kernel)) (c.glb h2) (c.blt t.nm (by cases t <;> decide +kernel)) (sE a pa c tk h3).se h4) (by intro _; rfl) rfl
    | _ => exact nf h
  | .met m a es, p, X, sc, top, μ0, H0, W, c, tk, h => by cases p <;> exact nf h
  | .comp own e tg it d, p, X, sc, top, μ0, H0, W, c, tk, h => by
    cases p with
    | ListComp pe gs scope pos =>
      match gs, h with
      | [⟨ptg, pit, pifs, 0⟩], h =>
        have h : (blkC N sc scope (ownOf N own) && (own.all fun i => i < N.length) && ((Tg.sl tg).all fun j => own.contains j) && ckT Γ N false tg (relS scope sc) ptg && ckI Γ N it sc ptg pit && notSet pit && ckE Γ N e (relS scope sc) pe && ckC Γ N d (relS scope sc) pifs && !(glbB (relS scope sc) "_law_error")) = true := h
        simp only [Bool.and_eq_true] at h
        obtain ⟨⟨⟨⟨⟨⟨⟨⟨h1, h2⟩, h3⟩, h4⟩, h5⟩, h6⟩, h7⟩, h8⟩, h9⟩ := h
        have ok : BlkOk X.N X.env.scope scope (ownOf N own) := by rw [c.NN, c.sc]; exact blkOk_by h1
        refine .fre (s_compF c.K c.calm (by rw [c.NN]; exact c.nd) (ownOf_snd N own) (sI it ptg pit c tk h5) ok (fun j hj => ?_) h6 (fun s H C cl fp H0' => g_ok (c.blk s H C cl fp (by simpa using h9)) tg ptg h4) (fun s H C cl fp H0' => sC d pifs (c.blk s H C cl fp (by simpa using h9)) takes_blk h8) (fun s H C cl fp H0' => (sE e pe (c.blk s H C cl fp (by simpa using h9)) takes_blk h7).se)) lists_comp (by intro _; rfl) rfl
        have := List.all_eq_true.mp h3 j hj
        exact List.contains_iff_mem.mp this
    | _ => exact nf h
  | .popc n, p, X, sc, top, μ0, H0, W, c, tk, h => by
    cases p with
    | Call pf ps ks pos =>
      match pf, ps, ks, h with
      | .Attribute (.Name x px) m apos, [.Constant (.int 0) k3 p3], [], h =>
        have h : (decide (m = "pop") && varB N sc n x && (apos.endLine == pos.line)) = true := h
        simp only [Bool.and_eq_true, decide_eq_true_eq] at h
        obtain ⟨⟨rfl, hv⟩, hl⟩ := h
        obtain ⟨h1, h2, h3, h4⟩ := c.vis hv
        exact .val (s_popc c.K h1 h2 h3 h4 hl) (by intro _; rfl) rfl
    | _ => exact nf h
  | .app n a, p, X, sc, top, μ0, H0, W, c, tk, h => by
    cases p with
    | Call pf ps ks pos =>
      match pf, ps, ks, h with
      | .Attribute (.Name x px) m apos, [pa], [], h =>
        have h : (decide (m = "append") && varB N sc n x && ckE Γ N a sc pa && notStar pa && (apos.endLine == pos.line)) = true := h
        simp only [Bool.and_eq_true, decide_eq_true_eq] at h
        obtain ⟨⟨⟨⟨rfl, hv⟩, ha⟩, hs⟩, hl⟩ := h
        obtain ⟨h1, h2, h3, h4⟩ := c.vis hv
        exact .val (s_app c.K h1 h2 h3 h4 (sE a pa c tk ha).se hs hl) (by intro _; rfl) rfl
    | _ => exact nf h
theorem sEs : ∀ (es : Es) (ps : List Expr) {X : Cx} {sc : Scope} {top : Bool} {μ0 : List Addr} {H0 : Hp} {W : WX} (c : Ctxt G ex Γ F gl lv X N sc top) (tk : L2N.Takes X W), ckEs Γ N es sc ps = true → SEs G ex μ0 H0 W X ps (evs F gl es) ∧ ps.all notStar = true ∧ (ps = [] → evs F gl es = M.pure [])
  | .nil, ps, X, sc, top, μ0, H0, W, c, tk, h => by
    cases ps with
    | nil => exact ⟨s_nil, rfl, fun _ => rfl⟩
    | cons p ps => exact nf h
  | .cons e es, ps, X, sc, top, μ0, H0, W, c, tk, h => by
    cases ps with
    | nil => exact nf h
    | cons p ps =>
      have h : (ckE Γ N e sc p && notStar p && ckEs Γ N es sc ps) = true := h
      simp only [Bool.and_eq_true] at h
      have A := sEs (μ0 := μ0) (H0 := H0) es ps c tk h.2
      exact ⟨s_cons (sE e p c tk h.1.1).se A.1 h.1.2, by rw [List.all_cons, h.1.2, A.2.1]; rfl, fun z => nomatch z⟩
theorem sO : ∀ (e : EO) (p : Option Expr) {X : Cx} {sc : Scope} {top : Bool} {μ0 : List Addr} {H0 : Hp} {W : WX} (c : Ctxt G ex Γ F gl lv X N sc top) (tk : L2N.Takes X W), ckO Γ N e sc p = true → SO G ex μ0 H0 W X p (evo F gl e)
  | .non, p, X, sc, top, μ0, H0, W, c, tk, h => by
    cases p with
    | none => exact o_none
    | some p => exact nf h
  | .som e, p, X, sc, top, μ0, H0, W, c, tk, h => by
    cases p with
    | none => exact nf h
    | some p => exact o_some (sE e p c tk h).se
theorem sC : ∀ (e : EO) (ps : List Expr) {X : Cx} {sc : Scope} {top : Bool} {μ0 : List Addr} {H0 : Hp} {W : WX} (c : Ctxt G ex Γ F gl lv X N sc top) (tk : L2N.Takes X W), ckC Γ N e sc ps = true → PTs X ps (TM G ex μ0 H0 W RB (evc F gl e))
  | .non, ps, X, sc, top, μ0, H0, W, c, tk, h => by
    match ps, h with
    | [], h => exact ⟨fun pins s σ H Q I ⟨μ, x⟩ => pts_nil.run pins s σ H Q I (x.ret _ _ Same.rfl' rfl)⟩
  | .som e, ps, X, sc, top, μ0, H0, W, c, tk, h => by
    match ps, h with
    | [p], h =>
      have h : (ckE Γ N e sc p && notIf p) = true := h
      simp only [Bool.and_eq_true] at h
      exact pts_one ((sE e p c tk h.1).st h.2)
theorem sI : ∀ (it : It) (tg p : Expr) {X : Cx} {sc : Scope} {top : Bool} {μ0 : List Addr} {H0 : Hp} {W : WX} (c : Ctxt G ex Γ F gl lv X N sc top) (tk : L2N.Takes X W), ckI Γ N it sc tg p = true → SI G ex μ0 H0 W X tg p (evi F gl it)
  | .seq e, tg, p, X, sc, top, μ0, H0, W, c, tk, h => i_seq c.K (sE e p c tk h).se
  | .rng e, tg, p, X, sc, top, μ0, H0, W, c, tk, h => by
    cases p with
    | Call f ps ks pos =>
      match f, ps, ks, h with
      | .Name x px, [p], [], h =>
        have h : (decide (x = "range") && glbB sc "range" && ckE Γ N e sc p && notStar p) = true := h
        simp only [Bool.and_eq_true, decide_eq_true_eq] at h
        obtain ⟨⟨⟨rfl, h1⟩, h2⟩, h3⟩ := h
        exact i_rng (c.glb h1) (c.blt "range" (by decide +kernel)) (sE e p c tk h2).se h3
    | _ => exact nf h
  | .rng2 a b, tg, p, X, sc, top, μ0, H0, W, c, tk, h => by
    cases p with
    | Call f ps ks pos =>
      match f, ps, ks, h with
      | .Name x px, [p, q], [], h =>
        have h : (decide (x = "range") && glbB sc "range" && ckE Γ N a sc p && notStar p && ckE Γ N b sc q && notStar q) = true := h
        simp only [Bool.and_eq_true, decide_eq_true_eq] at h
        obtain ⟨⟨⟨⟨⟨rfl, h1⟩, h2⟩, h3⟩, h4⟩, h5⟩ := h
        exact i_rng2 (c.glb h1) (c.blt "range" (by decide +kernel)) (sE a p c tk h2).se h3 (sE b q c tk h4).se h5
    | _ => exact nf h
  | .enm e, tg, p, X, sc, top, μ0, H0, W, c, tk, h => by
    cases p with
    | Call f ps ks pos =>
      match f, ps, ks, h with
      | .Name x px, [p], [], h =>
        have h : (decide (x = "enumerate") && glbB sc "enumerate" && ckE Γ N e sc p && notStar p && isTup tg) = true := h
        simp only [Bool.and_eq_true, decide_eq_true_eq] at h
        obtain ⟨⟨⟨⟨rfl, h1⟩, h2⟩, h3⟩, h4⟩ := h
        cases tg with
        | Tuple els kk tp => exact i_enm c.K (c.glb h1) (c.blt "enumerate" (by decide +kernel)) (sE e p c tk h2).se h3
        | _ => exact nf h4
    | _ => exact nf h
  | .zip a b, tg, p, X, sc, top, μ0, H0, W, c, tk, h => by
    cases p with
    | Call f ps ks pos =>
      match f, ps, ks, h with
      | .Name x px, [p, q], [], h =>
        have h : (decide (x = "zip") && glbB sc "zip" && ckE Γ N a sc p && notStar p && ckE Γ N b sc q && notStar q && isTup tg) = true := h
        simp only [Bool.and_eq_true, decide_eq_true_eq] at h
        obtain ⟨⟨⟨⟨⟨⟨rfl, h1⟩, h2⟩, h3⟩, h4⟩, h5⟩, h6⟩ := h
        cases tg with
        | Tuple els kk tp => exact i_zip c.K (c.glb h1) (c.blt "zip" (by decide +kernel)) (sE a p c tk h2).se h3 (sE b q c tk h4).se h5
        | _ => exact nf h6
    | _ => exact nf h
end
end
end Pv
end
section
set_option Elab.async false
set_option linter.all false
set_option maxRecDepth 100000
set_option maxHeartbeats 4000000
namespace Pv
open PySem PySem.Spec PyProof.Rows L2

section
variable (G : Wd) (ex : Nat → Value) (μ0 : List Addr) (H0 : Hp) (W : WX)
/-- what is wanted behind a flow -/
def FlP (Dn : Ends) (μ : List Addr) (H : Hp) : Fl → Ro → So → Prop
  | .nx, ρ', S' => ∀ σ' H' μ', μ <+: μ' → Keep H H' → Jn G μ0 H0 μ' σ' H' ρ' S' → Dn.nx σ' H'
  | .br, ρ', S' => ∀ σ' H' μ', μ <+: μ' → Keep H H' → Jn G μ0 H0 μ' σ' H' ρ' S' → Dn.bk σ' H'
  | .rt d, ρ', S' => ∀ v σ' H' μ', μ <+: μ' → Keep H H' → Jn G μ0 H0 μ' σ' H' ρ' S' → Rel G μ' H' v d → Dn.rt v H'
  | .ro xs, ρ', S' => ∀ p vs σ' H' μ', μ <+: μ' → Keep H H' → Jn G μ0 H0 μ' σ' H' ρ' S' → H' p = some (.lst vs) → RelL G μ' H' vs xs → p ∉ μ' → H0 p = none → Dn.rt (.ref p) H'
def ExP (μ : List Addr) (H : Hp) : Nat → Ro → So → Prop := fun c ρ' S' => ∀ σ' H' μ', μ <+: μ' → Keep H H' → Jn G μ0 H0 μ' σ' H' ρ' S' → W (ex c) none σ' H'
def TSa (μ : List Addr) (m : M Fl) (Dn : Ends) (σ : L2.St) (H : Hp) : Prop := ∃ ρ S, Jn G μ0 H0 μ σ H ρ S ∧ (m ρ S).post (FlP G μ0 H0 Dn μ H) (ExP G ex μ0 H0 W μ H)
def TSt (m : M Fl) : TS := fun Dn σ H => ∃ μ, TSa G ex μ0 H0 W μ m Dn σ H
end
section
variable {G : Wd} {ex : Nat → Value} {μ0 μ μ1 : List Addr} {H0 H H1 : Hp} {W : WX} {σ : L2.St} {Dn : Ends} {α A : Type} {RA : List Addr → Hp → A → α → Prop}
theorem FlP.mono (p : μ <+: μ1) (k : Keep H H1) : ∀ {f : Fl} {ρ : Ro} {S : So}, FlP G μ0 H0 Dn μ H f ρ S → FlP G μ0 H0 Dn μ1 H1 f ρ S
  | .nx, _, _, h => fun σ' H' μ' p1 k1 J => h σ' H' μ' (p.trans p1) (k.trans k1) J
  | .br, _, _, h => fun σ' H' μ' p1 k1 J => h σ' H' μ' (p.trans p1) (k.trans k1) J
  | .rt _, _, _, h => fun v σ' H' μ' p1 k1 J r => h v σ' H' μ' (p.trans p1) (k.trans k1) J r
  | .ro _, _, _, h => fun q vs σ' H' μ' p1 k1 J e r n z => h q vs σ' H' μ' (p.trans p1) (k.trans k1) J e r n z
theorem ExP.mono (p : μ <+: μ1) (k : Keep H H1) {c : Nat} {ρ : Ro} {S : So} (h : ExP G ex μ0 H0 W μ H c ρ S) : ExP G ex μ0 H0 W μ1 H1 c ρ S := fun σ' H' μ' p1 k1 J => h σ' H' μ' (p.trans p1) (k.trans k1) J
/-- an expression, then on -/
theorem TSa.bind {m : M α} {f : α → M Fl} (h : TSa G ex μ0 H0 W μ (m.bind f) Dn σ H) : TMa G ex μ0 H0 W RA μ m σ H fun v H1 => ∃ d μ1, μ <+: μ1 ∧ Keep H H1 ∧ RA μ1 H1 v d ∧ TSa G ex μ0 H0 W μ1 (f d) Dn σ H1 := by
  obtain ⟨ρ, S, J, h⟩ := h
  exact ⟨ρ, S, J, (post_bind h).imp (fun d ρ1 S1 h1 v H1 μ1 p k J1 r => ⟨d, μ1, p, k, r, ρ1, S1, J1, h1.imp (fun f ρ2 S2 z => z.mono p k) fun c ρ2 S2 z => ExP.mono p k z⟩) fun c ρ1 S1 z H1 μ1 p k J1 => z σ H1 μ1 p k J1⟩
theorem TSa.ret {f : Fl} (h : TSa G ex μ0 H0 W μ (M.pure f) Dn σ H) : ∃ ρ S, Jn G μ0 H0 μ σ H ρ S ∧ FlP G μ0 H0 Dn μ H f ρ S := h
theorem TSa.nx (h : TSa G ex μ0 H0 W μ (M.pure .nx) Dn σ H) : Dn.nx σ H := by
  obtain ⟨ρ, S, J, h⟩ := h
  exact h σ H μ (List.prefix_refl _) (Keep.refl H) J
end
section
variable {G : Wd} {ex : Nat → Value} {μ0 : List Addr} {H0 : Hp} {W : WX} {X : Cx} {e p tg : Expr} {m : M D} {mt : M Bool} {pos : Pos}
abbrev SSt (G : Wd) (ex : Nat → Value) (μ0 : List Addr) (H0 : Hp) (W : WX) (X : Cx) (st : Stmt) (m : M Fl) : Prop := PS X st (TSt G ex μ0 H0 W m)
abbrev SSs (G : Wd) (ex : Nat → Value) (μ0 : List Addr) (H0 : Hp) (W : WX) (X : Cx) (st : List Stmt) (m : M Fl) : Prop := PSs X st (TSt G ex μ0 H0 W m)
theorem PS.imp {st : Stmt} {t t' : TS} (h : PS X st t) (k : ∀ D σ H, t' D σ H → t D σ H) : PS X st t' := ⟨fun pins s σ H D I x => h.run pins s σ H D I (k D σ H x)⟩
theorem PSs.imp {st : List Stmt} {t t' : TS} (h : PSs X st t) (k : ∀ D σ H, t' D σ H → t D σ H) : PSs X st t' := ⟨fun pins s σ H D I x => h.run pins s σ H D I (k D σ H x)⟩
/-- a list that was stored is written no more -/
theorem PS.fz {st : Stmt} {t : TS} (h : PS X st t) : PS X st (fun D σ H => t { D with nx := fun σ' H' => D.nx σ' H' ∨ ∃ p vs, H' p = some (.lst vs) ∧ ∀ o, D.nx σ' (upd H' p (.frz o (.lst vs))) } σ H) := by
  refine ⟨fun pins s σ H D I x => thn (h.run pins s σ H _ I x) fun f s' q => ?_⟩
  cases f with
  | next =>
    obtain ⟨σ', H', I', q⟩ := q
    rcases q with q | ⟨p, vs, h1, h2⟩
    · exact ⟨σ', H', I', q⟩
    · obtain ⟨o, J⟩ := Inv.freeze I' h1
      exact ⟨σ', _, J, h2 o⟩
  | ret v => exact q
  | brk => exact q
  | cont => exact q
def notComp : Expr → Bool
  | .ListComp .. | .SetComp .. | .DictComp .. => false
  | _ => true
theorem sw_no {t : Option Expr} {l : Nat} {env : Env} (h : notComp e = true) : swapsWith e t l env = pure false := by
  cases e <;> first | rfl | (simp [notComp] at h)
theorem sws_no {t : Expr} {l : Nat} {env : Env} (h : notComp e = true) : swapsWithSole [t] e l env = pure false := by
  rw [show swapsWithSole [t] e l env = swapsWith e (some t) l env by rfl]
  exact sw_no h
theorem ss_nil : SSs G ex μ0 H0 W X [] (M.pure .nx) := PSs.imp pss_nil fun D σ H ⟨μ, h⟩ => h.nx
theorem ss_cons {st : Stmt} {sts : List Stmt} {a b : M Fl} (h1 : SSt G ex μ0 H0 W X st a) (h2 : SSs G ex μ0 H0 W X sts b) : SSs G ex μ0 H0 W X (st :: sts) (a.bind fun f => match f with
      | .nx => b
      | .br => M.pure .br
      | .rt x => M.pure (.rt x)
      | .ro x => M.pure (.ro x)) := by
  refine PSs.imp (pss_cons h1 h2) fun D σ H ⟨μ, ρ, S, J, h⟩ => ⟨μ, ρ, S, J, (post_bind h).imp (fun f ρ1 S1 h1 => ?_) fun _ _ _ z => z⟩
  cases f with
  | nx => exact fun σ' H' μ' p k J' => ⟨μ', ρ1, S1, J', h1.imp (fun f ρ2 S2 z => z.mono p k) fun c ρ2 S2 z => ExP.mono p k z⟩
  | br => exact h1
  | rt d => exact h1
  | ro xs => exact h1
theorem ss_ex (he : SE G ex μ0 H0 W X e m) (hn : notComp e = true) : SSt G ex μ0 H0 W X (.Expr e pos) (m.bind fun _ => M.pure .nx) :=
  PS.imp (ps_expr he (sw_no hn)) fun D σ H ⟨μ, h⟩ => ⟨μ, (TSa.bind h).imp fun v H1 ⟨d, μ1, p, k, r, h1⟩ => h1.nx⟩
theorem ss_ret (he : SE G ex μ0 H0 W X e m) : SSt G ex μ0 H0 W X (.Return (some e) pos) (m.bind fun x => M.pure (.rt x)) :=
  PS.imp (ps_ret he) fun D σ H ⟨μ, h⟩ => ⟨μ, (TSa.bind h).imp fun v H1 ⟨d, μ1, p, k, r, h1⟩ => by
    obtain ⟨ρ, S, J, q⟩ := h1
    exact q v σ H1 μ1 (List.prefix_refl _) (Keep.refl _) J r⟩
theorem ss_retn : SSt G ex μ0 H0 W X (.Return none pos) (M.pure (.rt .non)) :=
  PS.imp ps_retN fun D σ H ⟨μ, ρ, S, J, q⟩ => q .non σ H μ (List.prefix_refl _) (Keep.refl _) J .non
theorem ss_retf (he : PE X e (TF G ex μ0 H0 W m)) : SSt G ex μ0 H0 W X (.Return (some e) pos) (m.bind fun x => match x with
    | .lst xs => M.pure (.ro xs)
    | _ => fun _ _ => .bad) := by
  refine PS.imp (ps_ret he) fun D σ H ⟨μ, ρ, S, J, h⟩ => ⟨μ, ρ, S, J, (post_bind h).imp (fun d ρ1 S1 h1 => ?_) fun c ρ1 S1 z H1 μ1 p k J1 => z σ H1 μ1 p k J1⟩
  cases d with
  | lst xs => exact ⟨xs, rfl, fun p vs H' μ' p1 k1 J1 e1 r1 f1 => h1 p vs σ H' μ' p1 k1 J1 e1 r1 f1.mu f1.h0⟩
  | _ => exact h1.elim
theorem ss_reto {i : Nat} {x : Str} {px : Pos} (h1 : X.N[i]? = some x) (h2 : Vis X.env.scope x) (h3 : (x == ("__debug__" : Str)) = false) (h4 : (x == ("__classdict__" : Str)) = false) : SSt G ex μ0 H0 W X (.Return (some (.Name x px)) pos) ((getOw i).bind fun xs => M.pure (.ro xs)) := by
  refine PS.imp (ps_ret (pe_var h1 h2 h3 h4)) fun D σ H ⟨μ, ρ, S, J, h⟩ => ?_
  have h := post_bind h
  unfold getOw at h
  split at h
  · rename_i ds e
    obtain ⟨p, vs, g1, g2, g3, g4, g5, _⟩ := J.ow i ds e
    exact ⟨_, g1, h p vs σ H μ (List.prefix_refl _) (Keep.refl _) J g2 g3 g4 g5⟩
  · exact h.elim
theorem ss_ite {a b : List Stmt} {ma mb : M Fl} (hc : ST G ex μ0 H0 W X e mt) (ha : SSs G ex μ0 H0 W X a ma) (hb : SSs G ex μ0 H0 W X b mb) : SSt G ex μ0 H0 W X (.If e a b pos) (mt.bind fun t => if t then ma else mb) := by
  refine PS.imp (ps_if hc ha hb) fun D σ H ⟨μ, h⟩ => ⟨μ, (TSa.bind (RA := RB) h).imp fun k H1 ⟨d, μ1, p, kk, r, h1⟩ => ?_⟩
  have r : k = d := r
  subst r
  cases k with
  | true => rw [if_pos rfl] at h1 ⊢; exact ⟨μ1, h1⟩
  | false => rw [if_neg (by decide)] at h1 ⊢; exact ⟨μ1, h1⟩
theorem ss_pass : SSt G ex μ0 H0 W X (.Pass pos) (M.pure .nx) := PS.imp ps_pass fun D σ H ⟨μ, h⟩ => h.nx
theorem ss_brk : SSt G ex μ0 H0 W X (.Break pos) (M.pure .br) := PS.imp ps_break fun D σ H ⟨μ, ρ, S, J, h⟩ => h σ H μ (List.prefix_refl _) (Keep.refl _) J
/-- a target, then on -/
theorem tg_on {t : Tg} {μ : List Addr} {σ : L2.St} {H : Hp} {Dn : Ends} {d : D} {v : V} {f : M Fl} (h : TSa G ex μ0 H0 W μ ((asg t d).bind fun _ => f) Dn σ H) (r : Rel G μ H v d) (k : ∀ μ1 σ1 H1, μ <+: μ1 → Keep H H1 → TSa G ex μ0 H0 W μ1 f Dn σ1 H1 → Q σ1 H1) : TTg G μ0 H0 (Rel G) t.sl (asg t) v σ H Q := by
  obtain ⟨ρ, S, J, h⟩ := h
  have h := post_bind h
  refine ⟨μ, ρ, S, d, J, r, ?_⟩
  cases q : asg t d ρ S with
  | ok u ρ1 S1 =>
    rw [q] at h
    exact fun σ' H' μ' p kk J' _ _ => k μ' σ' H' p kk ⟨ρ1, S1, J', Out.post.imp h (fun f ρ2 S2 z => FlP.mono p kk z) fun c ρ2 S2 z => ExP.mono p kk z⟩
  | ex c ρ1 S1 => exact absurd q (asg_nx t d ρ S c ρ1 S1)
  | bad => rw [q] at h; exact h.elim
theorem assign1 {env : Env} (h : notStar tg = true) : (assignEach [tg] env).map (·.2) = [assign tg env] := by cases tg <;> first | rfl | (simp [notStar] at h)
theorem ss_set {t : Tg} (he : SE G ex μ0 H0 W X p m) (hg : PG X tg (TTg G μ0 H0 (Rel G) t.sl (asg t))) (hs : swapsWithSole [tg] p pos.line X.env = pure false) (hw : swappedStores [tg] p X.env = pure none) (hst : notStar tg = true) :
    SSt G ex μ0 H0 W X (.Assign [tg] p pos) (m.bind fun x => (asg t x).bind fun _ => M.pure .nx) :=
  PS.imp (ps_asg he hg hs hw (assign1 hst)) fun D σ H ⟨μ, h⟩ => ⟨μ, (TSa.bind h).imp fun v H1 ⟨d, μ1, p, k, r, h1⟩ => tg_on h1 r fun μ2 σ2 H2 _ _ z => z.nx⟩

/-- a name takes a list of its own -/
theorem own_on {i : Nat} {μ : List Addr} {σ : L2.St} {H : Hp} {Dn : Ends} {m : M D} {f : M Fl} (h : TSa G ex μ0 H0 W μ (m.bind fun x => match x with
    | .lst xs => (putSl i (.ow xs)).bind fun _ => f
    | _ => fun _ _ => .bad) Dn σ H) : TF G ex μ0 H0 W m σ H fun v H1 => ∃ p, v = .ref p ∧ ∃ μ1, TSa G ex μ0 H0 W μ1 f Dn (σ.set i (some (.ref p))) H1 := by
  obtain ⟨ρ, S, J, h⟩ := h
  refine ⟨μ, ρ, S, J, (post_bind h).imp (fun d ρ1 S1 h1 => ?_) fun c ρ1 S1 z H1 μ1 p k J1 => z σ H1 μ1 p k J1⟩
  cases d with
  | lst xs =>
    refine ⟨xs, rfl, fun p vs H' μ' p1 k1 J1 e1 r1 f1 => ⟨p, rfl, μ', ?_⟩⟩
    have h2 := post_bind h1
    unfold putSl at h2
    split at h2
    · rename_i hl
      exact ⟨_, S1, J1.setOw e1 r1 f1 hl, Out.post.imp h2 (fun f ρ2 S2 z => FlP.mono p1 k1 z) fun c ρ2 S2 z => ExP.mono p1 k1 z⟩
    · exact h2.elim
  | _ => exact h1.elim
theorem ss_own {i : Nat} {x : Str} {px : Pos} (hN : X.N.Nodup) (hi : X.N[i]? = some x) (hx : L2.Loc X.env.scope x) (hf : X.fn x = true ∨ X.env.scope.names.lookup x = some .local) (he : PE X p (TF G ex μ0 H0 W m)) (hs : swapsWithSole [.Name x px] p pos.line X.env = pure false) :
    SSt G ex μ0 H0 W X (.Assign [.Name x px] p pos) (m.bind fun x => match x with
    | .lst xs => (putSl i (.ow xs)).bind fun _ => M.pure .nx
    | _ => fun _ _ => .bad) := by
  refine PS.imp (ps_asg he (pg_name hN hi hx hf) hs (by rfl) (by rfl)) fun D σ H ⟨μ, h⟩ => ?_
  obtain ⟨μ1, ρ1, S1, J1, q⟩ := own_on h
  exact ⟨μ1, ρ1, S1, J1, q.imp (fun d ρ2 S2 ⟨ds, e, z⟩ => ⟨ds, e, fun p vs H' μ' p1 k1 J2 e1 r1 f1 => by
    obtain ⟨p', e2, μ2, w⟩ := z p vs H' μ' p1 k1 J2 e1 r1 f1
    cases e2
    exact w.nx⟩) fun _ _ _ z => z⟩
theorem ss_sti {i : Nat} {x : Str} {px pt : Pos} {pk : Expr} {mk : M D} (h1 : X.N[i]? = some x) (h2 : Vis X.env.scope x) (h3 : (x == ("__debug__" : Str)) = false) (h4 : (x == ("__classdict__" : Str)) = false) (he : SE G ex μ0 H0 W X p m) (hk : SE G ex μ0 H0 W X pk mk) (hn : notComp p = true) (hns : notSlice pk = true) :
    SSt G ex μ0 H0 W X (.Assign [.Subscript (.Name x px) pk pt] p pos) (m.bind fun x => (getOw i).bind fun _ => mk.bind fun y => (getOw i).bind fun xs => (M.of (setIx xs y x)).bind fun l => (putSl i (.ow l)).bind fun _ => M.pure .nx) := by
  refine PS.imp (ps_asg he (pg_sub (pe_var h1 h2 h3 h4) hk set_list (by intro v; cases pk <;> first | rfl | (simp [notSlice] at hns))) (sws_no hn) (by rfl) (by rfl)) fun D σ H ⟨μ, h⟩ => ⟨μ, (TSa.bind h).imp fun v H1 ⟨d, μ1, p1, k1, r1, g1⟩ => ?_⟩
  have g2 := TSa.bind (RA := fun μ H (v : V) ds => ∃ p vs, v = .ref p ∧ σ[i]? = some (some (.ref p)) ∧ H p = some (.lst vs) ∧ RelL G μ H vs ds) g1
  obtain ⟨ρ, S, J, g2⟩ := g2
  unfold getOw at g2
  split at g2
  · rename_i ds e
    obtain ⟨p, vs, e1, e2, e3, _⟩ := J.ow i ds e
    obtain ⟨ds', μ1', p1', k1', _, g3⟩ := g2 (.ref p) H1 μ1 (List.prefix_refl _) (Keep.refl _) J ⟨p, vs, rfl, e1, e2, e3⟩
    refine ⟨_, e1, μ1', (TSa.bind g3).imp fun w H2 ⟨y, μ2, p2, k2, r2, g4⟩ => ?_⟩
    obtain ⟨ρ2, S2, J2, g4⟩ := g4
    have g5 := post_bind g4
    unfold getOw at g5
    split at g5
    · rename_i xs ee
      obtain ⟨l, el, g6⟩ := post_of (post_bind g5)
      obtain ⟨q, ws, f1, f2, f3, _, _, ff, J3⟩ := J2.own ee
      rw [e1] at f1
      cases f1
      have hi : i < ρ2.length := (List.getElem?_eq_some_iff.mp ee).1
      cases y with
      | int z =>
        obtain rfl := rel_int r2
        simp only [setIx, Option.map_eq_some_iff] at el
        obtain ⟨j, ej, rfl⟩ := el
        refine ⟨p, ws, z, j, rfl, rfl, f2, by rw [f3.length]; exact ej, ?_⟩
        have c : Calm H2 (upd H2 p (.lst (ws.set j v))) := Calm.upd f2
        have J4 := J3.chg (o := .lst (ws.set j v)) f2 ff
        have rv : Rel G μ2 H2 v d := Rel.mono (p1'.trans p2) (k1'.trans k2) _ _ r1
        have J5 := J4.setOw (i := i) (p := p) (vs := ws.set j v) (ds := xs.set j d) upd_same ((RelL.mono (List.prefix_refl _) c.keep _ _ f3).set (Rel.mono (List.prefix_refl _) c.keep _ _ rv) j) ff (by rw [List.length_set]; exact hi)
        rw [List.set_set, set_self e1] at J5
        have g7 := post_bind g6
        unfold putSl at g7
        rw [if_pos hi] at g7
        exact g7 σ _ μ2 (List.prefix_refl _) c.keep J5
      | _ => simp [setIx] at el
    · exact g5.elim
  · exact g2.elim

theorem ss_for {tg it : Expr} {b : List Stmt} {t : Tg} {mi : M (List D)} {mb : M Fl} (po : PassesOwn (model X.prog X.w) X.A X.env X.xe) (hc : X.calm = true) (hi : SI G ex μ0 H0 W X tg it mi) (hset : notSet it = true) (hg : PG X tg (TTg G μ0 H0 (Rel G) t.sl (asg t))) (hb : SSs G ex μ0 H0 W X b mb) :
    SSt G ex μ0 H0 W X (.For tg it b [] pos) (mi.bind fun items => fLoop (asg t) mb items) := by
  refine PS.imp (ps_for po hc hi hg hb (by intro x; cases it <;> first | rfl | (simp [notSet] at hset))) fun D σ H ⟨μ, ρ, S, J, h⟩ => ⟨μ, ρ, S, J, (post_bind h).imp (fun items ρ1 S1 h1 Jt H1 μ1 p1 k1 J1 itok => ?_) fun c ρ1 S1 z H1 μ1 p k J1 => z σ H1 μ1 p k J1⟩
  refine ⟨fun i m σ' H' => m = items.length - i ∧ i ≤ items.length ∧ ∃ μ', μ1 <+: μ' ∧ Keep H1 H' ∧ TSa G ex μ0 H0 W μ' (fLoop (asg t) mb (items.drop i)) D σ' H', ⟨_, rfl, Nat.zero_le _, μ1, List.prefix_refl _, Keep.refl _, ρ1, S1, J1, h1.imp (fun f ρ2 S2 z => z.mono p1 k1) fun c ρ2 S2 z => ExP.mono p1 k1 z⟩, ?_⟩
  rintro i m σ5 H5 ⟨rfl, hi5, μ5, p5, k5, h5⟩
  have it5 := itok H5 k5 i
  by_cases hlt : i < items.length
  · refine .inr ⟨it5.1 hlt, fun σ' H' => (i + 1 ≤ items.length ∧ ∃ μ', μ1 <+: μ' ∧ Keep H1 H' ∧ TSa G ex μ0 H0 W μ' (fLoop (asg t) mb (items.drop (i + 1))) D σ' H'), fun σ' H' w => ⟨_, by omega, rfl, w⟩, fun x H' y => ?_⟩
    obtain ⟨sm, d, hd, rd⟩ := it5.2.2 x H' hlt y
    have hdrop : items.drop i = d :: items.drop (i + 1) := by
      rw [List.drop_eq_getElem_cons hlt]
      congr 1
      rw [List.getElem?_eq_getElem hlt] at hd
      exact Option.some.inj hd
    rw [hdrop] at h5
    obtain ⟨ρ5, S5, J5, h5⟩ := h5
    have h5 : ((asg t d).bind (fun _ => mb.bind fun f => match f with
      | .nx => fLoop (asg t) mb (items.drop (i + 1))
      | .br => M.pure .nx
      | .rt x => M.pure (.rt x)
      | .ro x => M.pure (.ro x)) ρ5 S5).post (FlP G μ0 H0 D μ5 H5) (ExP G ex μ0 H0 W μ5 H5) := h5
    have h6 : TSa G ex μ0 H0 W μ5 ((asg t d).bind (fun _ => mb.bind fun f => match f with
      | .nx => fLoop (asg t) mb (items.drop (i + 1))
      | .br => M.pure .nx
      | .rt x => M.pure (.rt x)
      | .ro x => M.pure (.ro x))) D σ5 H' := ⟨ρ5, S5, J5.same sm, h5.imp (fun f ρ2 S2 z => z.mono (List.prefix_refl _) sm.keep) fun c ρ2 S2 z => ExP.mono (List.prefix_refl _) sm.keep z⟩
    refine tg_on h6 (Rel.mono p5 (Keep.refl _) _ _ rd) fun μ7 σ7 H7 p7 k7 ⟨ρ7, S7, J7, h7⟩ => ?_
    refine ⟨μ7, ρ7, S7, J7, (post_bind h7).imp (fun f ρ8 S8 z => ?_) fun _ _ _ z => z⟩
    cases f with
    | nx => exact fun σ' H' μ' p8 k8 J8 => ⟨hlt, μ', (p5.trans p7).trans p8, ((k5.trans sm.keep).trans k7).trans k8, ρ8, S8, J8, Out.post.imp z (fun f ρ2 S2 z => FlP.mono p8 k8 z) fun c ρ2 S2 z => ExP.mono p8 k8 z⟩
    | br => exact z
    | rt x => exact z
    | ro x => exact z
  · have e : i = items.length := by omega
    subst e
    rw [List.drop_length] at h5
    exact .inl ⟨it5.2.1 (Nat.le_refl _), h5.nx⟩
theorem ss_whl {b : List Stmt} {mb : M Fl} (po : PassesOwn (model X.prog X.w) X.A X.env X.xe) (hc : ST G ex μ0 H0 W X e mt) (hb : SSs G ex μ0 H0 W X b mb) (n : Nat) :
    SSt G ex μ0 H0 W X (.While e b [] pos) (wLoop mt mb n) := by
  refine PS.imp (ps_while po hc hb) fun D σ H ⟨μ, h⟩ => ?_
  refine ⟨fun m σ' H' => ∃ μ', μ <+: μ' ∧ Keep H H' ∧ TSa G ex μ0 H0 W μ' (wLoop mt mb m) D σ' H', ⟨n, μ, List.prefix_refl _, Keep.refl _, h⟩, ?_⟩
  rintro m σ5 H5 ⟨μ5, p5, k5, h5⟩
  cases m with
  | zero =>
    obtain ⟨ρ5, S5, J5, h5⟩ := h5
    exact h5.elim
  | succ m =>
    have h5 : TSa G ex μ0 H0 W μ5 (mt.bind fun t => if t then mb.bind fun f => match f with
      | .nx => wLoop mt mb m
      | .br => M.pure .nx
      | .rt x => M.pure (.rt x)
      | .ro x => M.pure (.ro x)
      else M.pure .nx) D σ5 H5 := h5
    refine ⟨μ5, (TSa.bind (RA := RB) h5).imp fun k H6 ⟨d, μ6, p6, k6, r, h6⟩ => ?_⟩
    have r : k = d := r
    subst r
    cases k with
    | false =>
      rw [if_neg (by decide)] at h6 ⊢
      exact h6.nx
    | true =>
      rw [if_pos rfl] at h6 ⊢
      refine ⟨fun σ' H' => ∃ μ', μ <+: μ' ∧ Keep H H' ∧ TSa G ex μ0 H0 W μ' (wLoop mt mb m) D σ' H', fun σ' H' w => ⟨m, Nat.lt_succ_self m, w⟩, ?_⟩
      obtain ⟨ρ6, S6, J6, h6⟩ := h6
      refine ⟨μ6, ρ6, S6, J6, (post_bind h6).imp (fun f ρ8 S8 z => ?_) fun _ _ _ z => z⟩
      cases f with
      | nx => exact fun σ' H' μ' p8 k8 J8 => ⟨μ', (p5.trans p6).trans p8, (k5.trans k6).trans k8, ρ8, S8, J8, Out.post.imp z (fun f ρ2 S2 z => FlP.mono p8 k8 z) fun c ρ2 S2 z => ExP.mono p8 k8 z⟩
      | br => exact z
      | rt x => exact z
      | ro x => exact z
end
end Pv
end
section
set_option Elab.async false
set_option linter.all false
set_option maxRecDepth 100000
set_option maxHeartbeats 4000000
namespace Pv
open PySem PySem.Spec PyProof.Rows L2
def isStarB : Expr → Bool
  | .Starred .. => true
  | _ => false
def swNm (sc : Scope) (line : Nat) : Expr → Option Str
  | .Name id pos => if sc.names.lookup id == some .local && pos.line == line then some id else none
  | _ => none
/-- how a tuple written is stored to a tuple of targets: none: by way of a tuple; some: name by name -/
def swV (sc : Scope) (ts vs : List Expr) : Option (Option (List Str)) :=
  if (!(ts.length == 2 || ts.length == 3) || vs.length != ts.length) = true then some none else if vs.any isStarB = true then some none else
    if ((ts.filterMap (swNm sc ((ts.head?.map (·.pos.line)).getD 0))).length != ts.length || (ts.filterMap (swNm sc ((ts.head?.map (·.pos.line)).getD 0))).eraseDups.length != (ts.filterMap (swNm sc ((ts.head?.map (·.pos.line)).getD 0))).length) = true then some none
    else if vs.all (foldedForSure 8) = true then some none else if vs.all (constantsAlone 8) = true then none else some (some (ts.filterMap (swNm sc ((ts.head?.map (·.pos.line)).getD 0))))
theorem sw_eq {env : Env} {ts vs : List Expr} {k k2 : Nat} {p p2 : Pos} {r : Option (List Str)} (hk : env.scope.kind = .function) (h : swV env.scope ts vs = some r) : swappedStores [.Tuple ts k p] (.Tuple vs k2 p2) env = pure r := by
  have hb : env.blockKind = .function := by unfold Env.blockKind; rw [hk]; rfl
  unfold swV at h
  have key : swappedStores [.Tuple ts k p] (.Tuple vs k2 p2) env = (if (!(ts.length == 2 || ts.length == 3) || vs.length != ts.length || ScopeKind.function != .function) = true then pure none else if vs.any isStarB = true then pure none else
    if ((ts.filterMap (swNm env.scope ((ts.head?.map (·.pos.line)).getD 0))).length != ts.length || (ts.filterMap (swNm env.scope ((ts.head?.map (·.pos.line)).getD 0))).eraseDups.length != (ts.filterMap (swNm env.scope ((ts.head?.map (·.pos.line)).getD 0))).length) = true then pure none
    else if vs.all (foldedForSure 8) = true then pure none else if vs.all (constantsAlone 8) = true then (do unsupported "assign.tuple-of-constant-expressions:order-of-the-stores"; pure (some (ts.filterMap (swNm env.scope ((ts.head?.map (·.pos.line)).getD 0))))) else pure (some (ts.filterMap (swNm env.scope ((ts.head?.map (·.pos.line)).getD 0))))) := by
    unfold swappedStores
    simp only [hb]
    rfl
  rw [key]
  have e0 : (ScopeKind.function != .function) = false := rfl
  rw [e0, Bool.or_false]
  split at h
  · rw [if_pos ‹_›]; cases h; rfl
  · rw [if_neg ‹_›]
    split at h
    · rw [if_pos ‹_›]; cases h; rfl
    · rw [if_neg ‹_›]
      split at h
      · rw [if_pos ‹_›]; cases h; rfl
      · rw [if_neg ‹_›]
        split at h
        · rw [if_pos ‹_›]; cases h; rfl
        · rw [if_neg ‹_›]
          split at h
          · cases h
          · rw [if_neg ‹_›]; cases h; rfl
end Pv
end
section
set_option Elab.async false
set_option linter.all false
set_option maxRecDepth 100000
set_option maxHeartbeats 4000000
namespace Pv
open PySem PySem.Spec PyProof.Rows L2
section
variable {G : Wd} {ex : Nat → Value} {μ0 : List Addr} {H0 : Hp} {W : WX} {X : Cx} {e p tg : Expr} {m : M D} {mt : M Bool} {pos : Pos}
/-- whether a comprehension's list is stored within its frame -/
def swLc (sc : Scope) (x : Str) (px : Pos) (scope : Scope) (pos : Pos) : Bool := sc.names.lookup x == some .local && px.line == pos.line && !(scope.names.any fun (n, k) => n == x && (k == .local || k == .cell))
theorem sw_lc {elt : Expr} {gs : List Comprehension} {scope : Scope} {cpos px : Pos} {x : Str} {l : Nat} {env : Env} (hk : env.scope.kind = .function) : swapsWith (.ListComp elt gs scope cpos) (some (.Name x px)) l env = pure (swLc env.scope x px scope cpos) := by
  have hb : env.blockKind = .function := by unfold Env.blockKind; rw [hk]; rfl
  unfold swapsWith
  simp only [hb]
  rfl
theorem sw_lc2 {elt : Expr} {gs : List Comprehension} {scope : Scope} {cpos pt : Pos} {ts : List Expr} {k l : Nat} {env : Env} : swapsWith (.ListComp elt gs scope cpos) (some (.Tuple ts k pt)) l env = pure false := rfl
/-- name = a comprehension, stored within its frame: what its reading gives -/
theorem ps_lc {elt tgc iter : Expr} {ifs : List Expr} {scope : Scope} {cpos px : Pos} {x : Str} {t : Tg} {own : List Nat} {on : List (Str × Nat)} {mi : M (List D)} {mc : M Bool} {me : M D} {i : Nat} (hK : X.K = G.K) (hc : X.calm = true) (hN : X.N.Nodup) (ho : on.map (·.2) = own)
    (hy : X.N[i]? = some x) (hyl : X.env.scope.names.lookup x = some .local) (hsw : swapsWith (.ListComp elt [⟨tgc, iter, ifs, 0⟩] scope cpos) (some (.Name x px)) pos.line X.env = pure true)
    (hi : SI G ex μ0 H0 W X tgc iter mi) (ok : BlkOk X.N X.env.scope scope on) (hsub : ∀ j ∈ t.sl, j ∈ own) (hset : notSet iter = true)
    (hg : ∀ (s : Shared) (H : Hp) (C : Addr) (cl : List (Str × Addr)) (fp : List Addr) (H0' : Hp), PG (X.blk s H scope (compEnvC scope cl C X.env) fp) tgc (TTg G μ0 H0' (Rel G) t.sl (asg t)))
    (ht : ∀ (s : Shared) (H : Hp) (C : Addr) (cl : List (Str × Addr)) (fp : List Addr) (H0' : Hp), PTs (X.blk s H scope (compEnvC scope cl C X.env) fp) ifs (TM G ex μ0 H0' WF RB mc))
    (he : ∀ (s : Shared) (H : Hp) (C : Addr) (cl : List (Str × Addr)) (fp : List Addr) (H0' : Hp), SE G ex μ0 H0' WF (X.blk s H scope (compEnvC scope cl C X.env) fp) elt me) :
    PS X (.Assign [.Name x px] (.ListComp elt [⟨tgc, iter, ifs, 0⟩] scope cpos) pos) (fun D σ H => TF G ex μ0 H0 W (mi.bind fun items => compM own (asg t) mc me items) σ H fun v H1 => D.nx (σ.set i (some v)) H1) := by
  have base := ps_setLc (pos := cpos) (spos := pos) (py := px) (g := fun v σ H Q => ∃ H0', TTg G μ0 H0' (Rel G) t.sl (asg t) v σ H Q) (tt := fun σ H Q => ∃ H0', TM G ex μ0 H0' WF RB mc σ H Q) (te := fun σ H Q => ∃ H0', TM G ex μ0 H0' WF (Rel G) me σ H Q) hc hN hy hyl hsw hi ok
    (fun s H C cl fp => ⟨fun pins s σ H v u Q I r ⟨H0', h⟩ => (hg _ _ C cl fp H0').run pins s σ H v u Q I r h⟩)
    (fun s H C cl fp => ⟨fun pins s σ H Q I ⟨H0', h⟩ => (ht _ _ C cl fp H0').run pins s σ H Q I h⟩)
    (fun s H C cl fp => ⟨fun pins s σ H Q I ⟨H0', h⟩ => (he _ _ C cl fp H0').run pins s σ H Q I h⟩)
    (by intro x; cases iter <;> first | rfl | (simp [notSet] at hset))
  rw [ho] at base
  exact PS.imp base fun D σ H h => rd_comp hsub h
/-- .. as an own list -/
theorem ss_ownF {i : Nat} {st : Stmt} (h : PS X st (fun D σ H => TF G ex μ0 H0 W m σ H fun v H1 => D.nx (σ.set i (some v)) H1)) : SSt G ex μ0 H0 W X st (m.bind fun x => match x with
    | .lst xs => (putSl i (.ow xs)).bind fun _ => M.pure .nx
    | _ => fun _ _ => .bad) := by
  refine PS.imp h fun D σ H ⟨μ, h⟩ => ?_
  obtain ⟨μ1, ρ1, S1, J1, q⟩ := own_on h
  exact ⟨μ1, ρ1, S1, J1, q.imp (fun d ρ2 S2 ⟨ds, e, z⟩ => ⟨ds, e, fun p vs H' μ' p1 k1 J2 e1 r1 f1 => by
    obtain ⟨p', e2, μ2, w⟩ := z p vs H' μ' p1 k1 J2 e1 r1 f1
    cases e2
    exact w.nx⟩) fun _ _ _ z => z⟩
/-- .. as a value -/
theorem ss_setF {i : Nat} {st : Stmt} (h : PS X st (fun D σ H => TF G ex μ0 H0 W m σ H fun v H1 => D.nx (σ.set i (some v)) H1)) (hl : Lists m) : SSt G ex μ0 H0 W X st (m.bind fun x => (asg (.nm i) x).bind fun _ => M.pure .nx) := by
  refine PS.imp (PS.fz h) fun D σ H ⟨μ, ρ, S, J, h⟩ => ⟨μ, ρ, S, J, ?_⟩
  have h := post_bind h
  cases q : m ρ S with
  | ok d ρ1 S1 =>
    rw [q] at h
    obtain ⟨ds, rfl⟩ := hl _ _ _ _ _ q
    refine ⟨ds, rfl, fun p vs H' μ' p1 k1 J1 h1 r1 f1 => .inr ⟨p, vs, h1, fun o => ?_⟩⟩
    have h2 := post_bind h
    have h2 : (putSl i (.sh (.lst ds)) ρ1 S1).post _ _ := h2
    unfold putSl at h2
    split at h2
    · rename_i hil
      have c : Calm H' (upd H' p (.frz o (.lst vs))) := Calm.upd h1
      have r : Rel G μ' (upd H' p (.frz o (.lst vs))) (.ref p) (.lst ds) := .lst ⟨o, upd_same⟩ (RelL.mono (List.prefix_refl _) c.keep _ _ r1)
      exact h2 _ _ μ' p1 (k1.trans c.keep) ((J1.chg h1 f1).setSh r hil)
    · exact h2.elim
  | ex c ρ1 S1 =>
    rw [q] at h
    exact fun H1 μ1 p k J1 => h σ H1 μ1 p k J1
  | bad => rw [q] at h; exact h.elim

/-- what a name is to hold: o: a list of our own -/
def TP (G : Wd) (ex : Nat → Value) (μ0 : List Addr) (H0 : Hp) (W : WX) (o : Bool) (m : M D) : TE := if o = true then TF G ex μ0 H0 W m else TM G ex μ0 H0 W (Rel G) m
/-- x is in hand, to be stored -/
def Hand (G : Wd) (μ0 : List Addr) (H0 : Hp) (μ : List Addr) (σ : L2.St) (ρ : Ro) (H : Hp) (v : V) : Sl → Prop
  | .sh d => Rel G μ H v d
  | .ow xs => ∃ p vs, v = .ref p ∧ H p = some (.lst vs) ∧ RelL G μ H vs xs ∧ Frs μ0 H0 μ σ ρ p
  | .no => False
theorem Jn.put {μ : List Addr} {σ : L2.St} {H : Hp} {ρ : Ro} {S : So} {v : V} {x : Sl} {i : Nat} (J : Jn G μ0 H0 μ σ H ρ S) (h : Hand G μ0 H0 μ σ ρ H v x) (hi : i < ρ.length) : Jn G μ0 H0 μ (σ.set i (some v)) H (ρ.set i x) S := by
  cases x with
  | no => exact h.elim
  | sh d => exact J.setSh h hi
  | ow xs =>
    obtain ⟨p, vs, rfl, h1, h2, h3⟩ := h
    exact J.setOw h1 h2 h3 hi
/-- what is wanted of an exception while the slots stand -/
def ExS (G : Wd) (ex : Nat → Value) (μ0 : List Addr) (H0 : Hp) (W : WX) (μ : List Addr) (σ : L2.St) (H : Hp) : Nat → Ro → So → Prop := fun c ρ' S' => ∀ H' μ', μ <+: μ' → Keep H H' → Jn G μ0 H0 μ' σ H' ρ' S' → W (ex c) none σ H'
/-- the first is in hand while the second is reckoned -/
theorem par_first {o : Bool} {m : M D} {β : Type} {f : Sl → M β} {μ : List Addr} {ρ : Ro} {S : So} {σ : L2.St} {H : Hp} {k : β → Ro → So → Prop} {Q : V → Hp → Prop} (J : Jn G μ0 H0 μ σ H ρ S)
    (h : (((pit o m).bind f) ρ S).post k (ExS G ex μ0 H0 W μ σ H))
    (on : ∀ x v H1 μ1 ρ1 S1 H0', (o = false → H0' = H0 ∧ ∃ d, x = .sh d) → μ <+: μ1 → Keep H H1 → Jn G μ0 H0' μ1 σ H1 ρ1 S1 → (f x ρ1 S1).post k (ExS G ex μ0 H0 W μ σ H) →
      (∀ H2 μ2 ρ2 S2, μ1 <+: μ2 → Keep H1 H2 → Jn G μ0 H0' μ2 σ H2 ρ2 S2 → Jn G μ0 H0 μ2 σ H2 ρ2 S2 ∧ Hand G μ0 H0 μ2 σ ρ2 H2 v x) → Q v H1) : TP G ex μ0 H0 W o m σ H Q := by
  have h1 := post_bind (post_bind h)
  unfold TP
  cases o with
  | false =>
    rw [if_neg (by decide)]
    refine ⟨μ, ρ, S, J, h1.imp (fun d ρ1 S1 h2 v H1 μ1 p k J1 r => ?_) fun c ρ1 S1 z => z⟩
    exact on (.sh d) v H1 μ1 ρ1 S1 H0 (fun _ => ⟨rfl, d, rfl⟩) p k J1 h2 fun H2 μ2 ρ2 S2 p2 k2 J2 => ⟨J2, Rel.mono p2 k2 _ _ r⟩
  | true =>
    rw [if_pos rfl]
    refine ⟨μ, ρ, S, J, h1.imp (fun d ρ1 S1 h2 => ?_) fun c ρ1 S1 z => z⟩
    cases d with
    | lst xs =>
      refine ⟨xs, rfl, fun p vs H1 μ1 p1 k1 J1 e1 r1 f1 => ?_⟩
      refine on (.ow xs) (.ref p) H1 μ1 ρ1 S1 (upd H0 p (.lst vs)) (fun z => nomatch z) p1 k1 (J1.prot e1 f1) h2 fun H2 μ2 ρ2 S2 p2 k2 J2 => ?_
      have hm : p ∉ μ0 := fun z => f1.mu (by obtain ⟨t, ht⟩ := J1.pre; rw [← ht]; exact List.mem_append_left _ z)
      obtain ⟨J3, e3, f3⟩ := J2.unprot f1.h0 hm
      exact ⟨J3, p, vs, rfl, e3, RelL.mono p2 k2 _ _ r1, f3⟩
    | _ => exact h2.elim
theorem ExS.turn {H0' : Hp} {μ μ1 : List Addr} {σ : L2.St} {H H1 : Hp} {c : Nat} {ρ : Ro} {S : So} (p : μ <+: μ1) (k : Keep H H1) (conv : ∀ H2 μ2 ρ2 S2, μ1 <+: μ2 → Keep H1 H2 → Jn G μ0 H0' μ2 σ H2 ρ2 S2 → Jn G μ0 H0 μ2 σ H2 ρ2 S2) (h : ExS G ex μ0 H0 W μ σ H c ρ S) : ExS G ex μ0 H0' W μ1 σ H1 c ρ S :=
  fun H' μ' p1 k1 J => h H' μ' (p.trans p1) (k.trans k1) (conv H' μ' ρ S p1 k1 J)
theorem Hand.set {μ : List Addr} {σ : L2.St} {H : Hp} {ρ : Ro} {v w : V} {x y : Sl} {i : Nat} (h : Hand G μ0 H0 μ σ ρ H v x) (g : Hand G μ0 H0 μ σ ρ H w y) (hi : i < ρ.length) (hl : ρ.length = σ.length) (hne : (∃ d, x = .sh d) ∨ ∃ d, y = .sh d) : Hand G μ0 H0 μ (σ.set i (some v)) (ρ.set i x) H w y := by
  cases y with
  | no => exact g
  | sh d => exact g
  | ow ys =>
    obtain ⟨q, ws, rfl, h1, h2, h3⟩ := g
    refine ⟨q, ws, rfl, h1, h2, h3.mu, h3.h0, fun j es e z => ?_⟩
    by_cases hj : j = i
    · subst hj
      rw [List.getElem?_set_self hi] at e
      cases e
      rw [List.getElem?_set_self (by rw [← hl]; exact hi)] at z
      rcases hne with ⟨d, e⟩ | ⟨d, e⟩ <;> cases e
    · rw [List.getElem?_set_ne (Ne.symm hj)] at e z
      exact h3.ow j es e z
theorem put_post {i : Nat} {x : Sl} {β : Type} {f : M β} {ρ : Ro} {S : So} {k : β → Ro → So → Prop} {e : Nat → Ro → So → Prop} (h : (((putSl i x).bind fun _ => f) ρ S).post k e) : i < ρ.length ∧ (f (ρ.set i x) S).post k e := by
  have h := post_bind h
  unfold putSl at h
  split at h
  · exact ⟨‹_›, h⟩
  · exact h.elim
theorem ss_par {i j : Nat} {oi oj : Bool} {x y : Str} {a b : Expr} {ma mb : M D} {px py pt : Pos} {kt k2 : Nat} {pt2 : Pos} (hc : X.calm = true) (hN : X.N.Nodup) (hi : X.N[i]? = some x) (hj : X.N[j]? = some y) (hij : i ≠ j) (hx : X.env.scope.names.lookup x = some .local) (hy : X.env.scope.names.lookup y = some .local)
    (ha : PE X a (TP G ex μ0 H0 W oi ma)) (hb : ∀ H0', PE X b (TP G ex μ0 H0' W oj mb)) (sa : notStar a = true) (sb : notStar b = true) (ho : oi = false ∨ oj = false) (hw : swappedStores [.Tuple [.Name x px, .Name y py] kt pt] (.Tuple [a, b] k2 pt2) X.env = pure (some [x, y])) :
    SSt G ex μ0 H0 W X (.Assign [.Tuple [.Name x px, .Name y py] kt pt] (.Tuple [a, b] k2 pt2) pos) ((pit oi ma).bind fun x => (pit oj mb).bind fun y => (putSl i x).bind fun _ => (putSl j y).bind fun _ => M.pure .nx) := by
  have pb : PE X b (fun σ H Q => ∃ H0', TP G ex μ0 H0' W oj mb σ H Q) := ⟨fun pins s σ H Q I ⟨H0', h⟩ => (hb H0').run pins s σ H Q I h⟩
  refine PS.imp (ps_par hc hN hi hj hij hx hy (pa_cons ha (pa_cons pb pa_nil (starEach_cons sb)) (starEach_cons sa)) hw) fun D σ H ⟨μ, ρ, S, J, h⟩ => ?_
  refine par_first J (h.imp (fun _ _ _ z => z) fun c ρ' S' z H' μ' p k J' => z σ H' μ' p k J') fun sx v H1 μ1 ρ1 S1 H0' i1 p1 k1 J1 h1 conv => ⟨H0', ?_⟩
  refine par_first J1 (h1.imp (fun _ _ _ z => z) fun c ρ' S' z => ExS.turn p1 k1 (fun H2 μ2 ρ2 S2 p2 k2 J2 => (conv H2 μ2 ρ2 S2 p2 k2 J2).1) z) fun sy w H2 μ2 ρ2 S2 H2' i2 p2 k2 J2 h2 conv2 => ⟨v, w, rfl, ?_⟩
  obtain ⟨J2', g2⟩ := conv2 H2 μ2 ρ2 S2 (List.prefix_refl _) (Keep.refl _) J2
  obtain ⟨J3, g1⟩ := conv H2 μ2 ρ2 S2 p2 k2 J2'
  obtain ⟨li, h3⟩ := put_post h2
  obtain ⟨lj, h4⟩ := put_post h3
  have sh : (∃ d, sx = .sh d) ∨ ∃ d, sy = .sh d := ho.elim (fun z => .inl (i1 z).2) fun z => .inr (i2 z).2
  have g2' : Hand G μ0 H0 μ2 σ ρ2 H2 w sy := by
    rcases ho with z | z
    · rw [(i1 z).1] at g2; exact g2
    · obtain ⟨d, rfl⟩ := (i2 z).2
      exact g2
  have J4 := (J3.put g1 li).put (Hand.set g1 g2' li J3.len sh) lj
  exact h4 _ _ μ2 (p1.trans p2) (k1.trans k2) J4
theorem tp_false (h : SE G ex μ0 H0 W X e m) : PE X e (TP G ex μ0 H0 W false m) := by
  unfold TP
  rw [if_neg (by decide)]
  exact h
theorem tp_true (h : PE X e (TF G ex μ0 H0 W m)) : PE X e (TP G ex μ0 H0 W true m) := by
  unfold TP
  rw [if_pos rfl]
  exact h
theorem ss_par3 {i j l : Nat} {oi : Bool} {x y z : Str} {a b c : Expr} {ma mb mc : M D} {px py pz pt : Pos} {kt k2 : Nat} {pt2 : Pos} (hc : X.calm = true) (hN : X.N.Nodup) (hi : X.N[i]? = some x) (hj : X.N[j]? = some y) (hl : X.N[l]? = some z) (hij : i ≠ j) (hil : i ≠ l) (hjl : j ≠ l) (hx : X.env.scope.names.lookup x = some .local) (hy : X.env.scope.names.lookup y = some .local) (hz : X.env.scope.names.lookup z = some .local)
    (ha : PE X a (TP G ex μ0 H0 W oi ma)) (hb : ∀ H0', PE X b (TP G ex μ0 H0' W false mb)) (hcc : ∀ H0', PE X c (TP G ex μ0 H0' W false mc)) (sa : notStar a = true) (sb : notStar b = true) (sc : notStar c = true) (hw : swappedStores [.Tuple [.Name x px, .Name y py, .Name z pz] kt pt] (.Tuple [a, b, c] k2 pt2) X.env = pure (some [x, y, z])) :
    SSt G ex μ0 H0 W X (.Assign [.Tuple [.Name x px, .Name y py, .Name z pz] kt pt] (.Tuple [a, b, c] k2 pt2) pos) ((pit oi ma).bind fun x => (pit false mb).bind fun y => (pit false mc).bind fun z => (putSl i x).bind fun _ => (putSl j y).bind fun _ => (putSl l z).bind fun _ => M.pure .nx) := by
  have pb : PE X b (fun σ H Q => ∃ H0', TP G ex μ0 H0' W false mb σ H Q) := ⟨fun pins s σ H Q I ⟨H0', h⟩ => (hb H0').run pins s σ H Q I h⟩
  have pc : PE X c (fun σ H Q => ∃ H0', TP G ex μ0 H0' W false mc σ H Q) := ⟨fun pins s σ H Q I ⟨H0', h⟩ => (hcc H0').run pins s σ H Q I h⟩
  refine PS.imp (ps_par3 hc hN hi hj hl hij hil hjl hx hy hz (pa_cons ha (pa_cons pb (pa_cons pc pa_nil (starEach_cons sc)) (starEach_cons sb)) (starEach_cons sa)) hw) fun D σ H ⟨μ, ρ, S, J, h⟩ => ?_
  refine par_first J (h.imp (fun _ _ _ z => z) fun c ρ' S' z H' μ' p k J' => z σ H' μ' p k J') fun sx v H1 μ1 ρ1 S1 H0' i1 p1 k1 J1 h1 conv => ⟨H0', ?_⟩
  refine par_first J1 (h1.imp (fun _ _ _ z => z) fun c ρ' S' z => ExS.turn p1 k1 (fun H2 μ2 ρ2 S2 p2 k2 J2 => (conv H2 μ2 ρ2 S2 p2 k2 J2).1) z) fun sy w H2 μ2 ρ2 S2 H2' i2 p2 k2 J2 h2 conv2 => ⟨H0', ?_⟩
  obtain ⟨rfl, d2, rfl⟩ := i2 rfl
  refine par_first J2 (h2.imp (fun _ _ _ z => z) fun c ρ' S' z => ExS.turn p2 k2 (fun H2 μ2 ρ2 S2 p2 k2 J2 => J2) z) fun sz u H3 μ3 ρ3 S3 H3' i3 p3 k3 J3 h3 conv3 => ⟨v, w, u, rfl, ?_⟩
  obtain ⟨rfl, d3, rfl⟩ := i3 rfl
  obtain ⟨_, g3⟩ := conv3 H3 μ3 ρ3 S3 (List.prefix_refl _) (Keep.refl _) J3
  obtain ⟨_, g2⟩ := conv2 H3 μ3 ρ3 S3 p3 k3 J3
  obtain ⟨J4, g1⟩ := conv H3 μ3 ρ3 S3 (p2.trans p3) (k2.trans k3) J3
  obtain ⟨li, h4⟩ := put_post h3
  obtain ⟨lj, h5⟩ := put_post h4
  obtain ⟨ll, h6⟩ := put_post h5
  have J5 := ((J4.put g1 li).setSh (i := j) g2 lj).setSh (i := l) g3 ll
  exact h6 _ _ μ3 ((p1.trans p2).trans p3) ((k1.trans k2).trans k3) J5
/-- raise X('..') -/
theorem ss_raise {n : Nat} {nm mg : Str} {C : Addr} {j : Nat} {p1 p2 p3 : Pos} (hc : X.calm = true) (tk : L2N.Takes X W) (hg : Gl X nm) (hd : (nm == ("__debug__" : Str)) = false) (he : ex n = .ref C) (q : PySem.W.excIn X.K C He.veBase "ValueError.__new__" = true) (gC : X.mg nm = some (.ref C)) (kC : PySem.W.keepIn X.K (.ref C) = true) (r : Raises X (.ref C)) :
    SSt G ex μ0 H0 W X (.Raise (some (.Call (.Name nm p1) [.Constant (.str mg) j p2] [] p3)) none pos) (fun ρ s => .ex n ρ s) := by
  refine PS.imp (L2N.ps_raise hc tk (L2N.pmk_own PySem.F.excBase_ValueError q gC kC r hg hd)) fun D σ H ⟨μ, ρ, S, J, h⟩ => ?_
  have := h σ H μ (List.prefix_refl _) (Keep.refl _) J
  rw [he] at this
  exact this
end
end Pv
end
section
set_option Elab.async false
set_option linter.all false
set_option maxRecDepth 100000
set_option maxHeartbeats 16000000
namespace Pv
open PySem PySem.Spec PyProof.Rows L2

section
variable (g : Nm) (N : List Str) (sc : Scope)
/-- how a value is stored to a target -/
def ckA (tg p : Expr) : Bool := match tg, p with
  | .Name x px, .ListComp _ _ scope pos => !(swLc sc x px scope pos)
  | .Tuple ts _ _, .Tuple vs _ _ => decide (swV sc ts vs = some none)
  | .Tuple _ _ _, .ListComp .. => true
  | .Name _ _, p => notComp p
  | .Tuple _ _ _, p => notComp p
  | _, _ => false
mutual
def ckS : S → Stmt → Bool
  | .ex e, .Expr p _ => ckE g N e sc p && notComp p
  | .set t e, .Assign [tg] p _ => ckT g N true t sc tg && ckE g N e sc p && (ckA sc tg p || ckLc t e tg p)
  | .own i e, .Assign [.Name x px] p _ => stB true N sc i x && ckE g N e sc p && frE e && (ckA sc (.Name x px) p || ckLc (.nm i) e (.Name x px) p)
  | .par i j oi oj a b, .Assign [.Tuple [.Name x px, .Name y py] kt pt] (.Tuple [pa, pb] k2 pt2) _ =>
      decide (N[i]? = some x) && decide (N[j]? = some y) && decide (i ≠ j) && decide (sc.names.lookup x = some .local) && decide (sc.names.lookup y = some .local) && ckE g N a sc pa && ckE g N b sc pb && notStar pa && notStar pb && (!oi || !oj) && (!oi || frE a) && (!oj || frE b) && decide (swV sc [.Name x px, .Name y py] [pa, pb] = some (some [x, y]))
  | .par3 i j l oi a b c, .Assign [.Tuple [.Name x px, .Name y py, .Name z pz] kt pt] (.Tuple [pa, pb, pc] k2 pt2) _ =>
      decide (N[i]? = some x) && decide (N[j]? = some y) && decide (N[l]? = some z) && decide (i ≠ j) && decide (i ≠ l) && decide (j ≠ l) && decide (sc.names.lookup x = some .local) && decide (sc.names.lookup y = some .local) && decide (sc.names.lookup z = some .local) && ckE g N a sc pa && ckE g N b sc pb && ckE g N c sc pc && notStar pa && notStar pb && notStar pc && (!oi || frE a) && decide (swV sc [.Name x px, .Name y py, .Name z pz] [pa, pb, pc] = some (some [x, y, z]))
  | .sti i k e, .Assign [.Subscript (.Name x _) pk _] p _ => varB N sc i x && ckE g N e sc p && ckE g N k sc pk && notComp p && notSlice pk
  | .ret e, .Return (some p) _ => ckE g N e sc p
  | .retf e, .Return (some p) _ => ckE g N e sc p && frE e
  | .reto i, .Return (some (.Name x _)) _ => varB N sc i x
  | .retn, .Return none _ => true
  | .ite c a b, .If pc pa pb _ => ckE g N c sc pc && notIf pc && ckSs a pa && ckSs b pb
  | .for_ t it b, .For tg pit pb [] _ => ckT g N true t sc tg && ckI g N it sc tg pit && notSet pit && ckSs b pb
  | .whl c b, .While pc pb [] _ => ckE g N c sc pc && notIf pc && ckSs b pb
  | .pass, .Pass _ => true
  | .brk, .Break _ => true
  | .raise n, .Raise (some (.Call (.Name nm _) [.Constant (.str _) _ _] [] _)) none _ => decide (g.xc[n]? = some nm) && glbB sc nm && !(nm == ("__debug__" : Str))
  | _, _ => false
/-- name = a comprehension, stored within its frame -/
def ckLc : Tg → E → Expr → Expr → Bool
  | .nm i, .comp own e tg it c, .Name x px, .ListComp pe [⟨ptg, pit, pifs, 0⟩] scope pos => decide (N[i]? = some x) && decide (sc.names.lookup x = some .local) && swLc sc x px scope pos
  | _, _, _, _ => false
def ckSs : Ss → List Stmt → Bool
  | .nil, [] => true
  | .cons s ss, p :: ps => ckS s p && ckSs ss ps
  | _, _ => false
end
end
section
variable {G : Wd} {ex : Nat → Value} {Γ : Nm} {F : Nat → List D → So → FR} {gl : Nat → Option D} {lv : Nat} {N : List Str} {X : Cx} {sc : Scope} {μ0 : List Addr} {H0 : Hp} {W : WX}
theorem assign_ok {tg p : Expr} {l : Nat} (hs : X.env.scope = sc) (hk : sc.kind = .function) (h : ckA sc tg p = true) : swapsWithSole [tg] p l X.env = pure false ∧ swappedStores [tg] p X.env = pure none ∧ notStar tg = true := by
  subst hs
  cases tg with
  | Name x px =>
    refine ⟨?_, by cases p <;> rfl, rfl⟩
    cases p with
    | ListComp elt gs scope pos =>
      have h : (!(swLc X.env.scope x px scope pos)) = true := h
      rw [Bool.not_eq_true'] at h
      rw [show swapsWithSole [.Name x px] (.ListComp elt gs scope pos) l X.env = swapsWith (.ListComp elt gs scope pos) (some (.Name x px)) l X.env by rfl, sw_lc hk, h]
    | SetComp _ _ _ _ => exact nf h
    | DictComp _ _ _ _ _ => exact nf h
    | _ => rfl
  | Tuple ts k pt =>
    cases p with
    | Tuple vs k2 p2 =>
      exact ⟨rfl, sw_eq hk (of_decide_eq_true h), rfl⟩
    | ListComp elt gs scope pos => exact ⟨rfl, rfl, rfl⟩
    | SetComp _ _ _ _ => exact nf h
    | DictComp _ _ _ _ _ => exact nf h
    | _ => exact ⟨rfl, rfl, rfl⟩
  | _ => cases p <;> exact nf h
/-- a name takes a comprehension's list within its frame -/
theorem lc_ok (c : Ctxt G ex Γ F gl lv X N sc true) (hk : sc.kind = .function) (tk : L2N.Takes X W) {i : Nat} {own : List Nat} {e : E} {tg : Tg} {it : It} {d : EO} {x : Str} {px : Pos} {p : Expr} {pos : Pos}
    (h : ckE Γ N (.comp own e tg it d) sc p = true) (h2 : ckLc Γ N sc (.nm i) (.comp own e tg it d) (.Name x px) p = true) :
    PS X (.Assign [.Name x px] p pos) (fun D σ H => TF G ex μ0 H0 W (ev F gl (.comp own e tg it d)) σ H fun v H1 => D.nx (σ.set i (some v)) H1) := by
  cases p with
  | ListComp pe gs scope cpos =>
    match gs, h, h2 with
    | [⟨ptg, pit, pifs, 0⟩], h, h2 =>
      have h : (blkC N sc scope (ownOf N own) && (own.all fun i => i < N.length) && ((Tg.sl tg).all fun j => own.contains j) && ckT Γ N false tg (relS scope sc) ptg && ckI Γ N it sc ptg pit && notSet pit && ckE Γ N e (relS scope sc) pe && ckC Γ N d (relS scope sc) pifs && !(glbB (relS scope sc) "_law_error")) = true := h
      simp only [Bool.and_eq_true] at h
      obtain ⟨⟨⟨⟨⟨⟨⟨⟨h1, h2'⟩, h3⟩, h4⟩, h5⟩, h6⟩, h7⟩, h8⟩, h9⟩ := h
      have h2 : (decide (N[i]? = some x) && decide (sc.names.lookup x = some .local) && swLc sc x px scope cpos) = true := h2
      simp only [Bool.and_eq_true, decide_eq_true_eq] at h2
      obtain ⟨⟨g1, g2⟩, g3⟩ := h2
      have ok : BlkOk X.N X.env.scope scope (ownOf N own) := by rw [c.NN, c.sc]; exact blkOk_by h1
      refine ps_lc c.K c.calm (by rw [c.NN]; exact c.nd) (ownOf_snd N own) (by rw [c.NN]; exact g1) (by rw [c.sc]; exact g2) ?_ (sI it ptg pit c tk h5) ok (fun j hj => ?_) h6 (fun s H C cl fp H0' => g_ok (c.blk s H C cl fp (by simpa using h9)) tg ptg h4) (fun s H C cl fp H0' => sC d pifs (c.blk s H C cl fp (by simpa using h9)) takes_blk h8) (fun s H C cl fp H0' => (sE e pe (c.blk s H C cl fp (by simpa using h9)) takes_blk h7).se)
      · rw [sw_lc (by rw [c.sc]; exact hk), c.sc, g3]
      · exact List.contains_iff_mem.mp (List.all_eq_true.mp h3 j hj)
  | _ => exact nf h

/-- the exceptions' classes -/
def Xcs (G : Wd) (ex : Nat → Value) (Γ : Nm) (X : Cx) : Prop := ∀ (n : Nat) (nm : Str), Γ.xc[n]? = some nm → ∃ C, ex n = .ref C ∧ PySem.W.excIn X.K C He.veBase "ValueError.__new__" = true ∧ X.mg nm = some (.ref C) ∧ PySem.W.keepIn X.K (.ref C) = true ∧ Raises X (.ref C)
mutual
theorem sS (c : Ctxt G ex Γ F gl lv X N sc true) (xc : Xcs G ex Γ X) (hk : sc.kind = .function) (tk : L2N.Takes X W) (po : PassesOwn (model X.prog X.w) X.A X.env X.xe) : ∀ (s : S) (p : Stmt), ckS Γ N sc s p = true → SSt G ex μ0 H0 W X p (Pv.ex F gl s)
  | .ex e, p, h => by
    cases p with
    | Expr pe pos =>
      have h : (ckE Γ N e sc pe && notComp pe) = true := h
      simp only [Bool.and_eq_true] at h
      exact ss_ex (sE e pe c tk h.1).se h.2
    | _ => exact nf h
  | .set t e, p, h => by
    cases p with
    | Assign ts pe pos =>
      match ts, h with
      | [tg], h =>
        have h : (ckT Γ N true t sc tg && ckE Γ N e sc pe && (ckA sc tg pe || ckLc Γ N sc t e tg pe)) = true := h
        simp only [Bool.and_eq_true, Bool.or_eq_true] at h
        obtain ⟨⟨h1, h2⟩, h3 | h3⟩ := h
        · obtain ⟨a1, a2, a3⟩ := assign_ok (l := pos.line) c.sc hk h3
          exact ss_set (sE e pe c tk h2).se (g_ok c t tg h1) a1 a2 a3
        · match t, e, tg, h2, h3 with
          | .nm i, .comp own e tg it d, .Name x px, h2, h3 => exact ss_setF (lc_ok c hk tk h2 h3) lists_comp
    | _ => exact nf h
  | .own i e, p, h => by
    cases p with
    | Assign ts pe pos =>
      match ts, h with
      | [.Name x px], h =>
        have h : (stB true N sc i x && ckE Γ N e sc pe && frE e && (ckA sc (.Name x px) pe || ckLc Γ N sc (.nm i) e (.Name x px) pe)) = true := h
        simp only [Bool.and_eq_true, Bool.or_eq_true] at h
        obtain ⟨⟨⟨h1, h2⟩, hf⟩, h3 | h3⟩ := h
        · obtain ⟨a1, a2, a3⟩ := assign_ok (l := pos.line) c.sc hk h3
          obtain ⟨b1, b2, b3⟩ := c.sto h1
          exact ss_own (by rw [c.NN]; exact c.nd) b1 b2 b3 ((sE e pe c tk h2).tf hf) a1
        · match e, h2, h3 with
          | .comp own e tg it d, h2, h3 => exact ss_ownF (lc_ok c hk tk h2 h3)
    | _ => exact nf h
  | .par i j oi oj a b, p, h => by
    cases p with
    | Assign ts pe pos =>
      match ts, pe, h with
      | [.Tuple [.Name x px, .Name y py] kt pt], .Tuple [pa, pb] k2 pt2, h =>
        have h : (decide (N[i]? = some x) && decide (N[j]? = some y) && decide (i ≠ j) && decide (sc.names.lookup x = some .local) && decide (sc.names.lookup y = some .local) && ckE Γ N a sc pa && ckE Γ N b sc pb && notStar pa && notStar pb && (!oi || !oj) && (!oi || frE a) && (!oj || frE b) && decide (swV sc [.Name x px, .Name y py] [pa, pb] = some (some [x, y]))) = true := h
        simp only [Bool.and_eq_true, decide_eq_true_eq, Bool.or_eq_true, Bool.not_eq_true'] at h
        obtain ⟨⟨⟨⟨⟨⟨⟨⟨⟨⟨⟨⟨h1, h2⟩, h3⟩, h4⟩, h5⟩, h6⟩, h7⟩, h8⟩, h9⟩, h10⟩, h11⟩, h12⟩, h13⟩ := h
        have A : PE X pa (TP G ex μ0 H0 W oi (ev F gl a)) := by
          cases oi with
          | false => exact tp_false (sE a pa c tk h6).se
          | true => exact tp_true ((sE a pa c tk h6).tf (h11.elim (fun z => nomatch z) id))
        have B : ∀ H0', PE X pb (TP G ex μ0 H0' W oj (ev F gl b)) := fun H0' => by
          cases oj with
          | false => exact tp_false (sE b pb c tk h7).se
          | true => exact tp_true ((sE b pb c tk h7).tf (h12.elim (fun z => nomatch z) id))
        exact ss_par c.calm (by rw [c.NN]; exact c.nd) (by rw [c.NN]; exact h1) (by rw [c.NN]; exact h2) h3 (by rw [c.sc]; exact h4) (by rw [c.sc]; exact h5) A B h8 h9 h10 (sw_eq (by rw [c.sc]; exact hk) (by rw [c.sc]; exact h13))
    | _ => exact nf h
  | .par3 i j l oi a b d, p, h => by
    cases p with
    | Assign ts pe pos =>
      match ts, pe, h with
      | [.Tuple [.Name x px, .Name y py, .Name z pz] kt pt], .Tuple [pa, pb, pd] k2 pt2, h =>
        have h : (decide (N[i]? = some x) && decide (N[j]? = some y) && decide (N[l]? = some z) && decide (i ≠ j) && decide (i ≠ l) && decide (j ≠ l) && decide (sc.names.lookup x = some .local) && decide (sc.names.lookup y = some .local) && decide (sc.names.lookup z = some .local) && ckE Γ N a sc pa && ckE Γ N b sc pb && ckE Γ N d sc pd && notStar pa && notStar pb && notStar pd && (!oi || frE a) && decide (swV sc [.Name x px, .Name y py, .Name z pz] [pa, pb, pd] = some (some [x, y, z]))) = true := h
        simp only [Bool.and_eq_true, decide_eq_true_eq, Bool.or_eq_true, Bool.not_eq_true'] at h
        obtain ⟨⟨⟨⟨⟨⟨⟨⟨⟨⟨⟨⟨⟨⟨⟨⟨h1, h2⟩, h3⟩, h4⟩, h5⟩, h6⟩, h7⟩, h8⟩, h9⟩, h10⟩, h11⟩, h12⟩, h13⟩, h14⟩, h15⟩, h16⟩, h17⟩ := h
        have A : PE X pa (TP G ex μ0 H0 W oi (ev F gl a)) := by
          cases oi with
          | false => exact tp_false (sE a pa c tk h10).se
          | true => exact tp_true ((sE a pa c tk h10).tf (h16.elim (fun z => nomatch z) id))
        exact ss_par3 c.calm (by rw [c.NN]; exact c.nd) (by rw [c.NN]; exact h1) (by rw [c.NN]; exact h2) (by rw [c.NN]; exact h3) h4 h5 h6 (by rw [c.sc]; exact h7) (by rw [c.sc]; exact h8) (by rw [c.sc]; exact h9) A (fun H0' => tp_false (sE b pb c tk h11).se) (fun H0' => tp_false (sE d pd c tk h12).se) h13 h14 h15 (sw_eq (by rw [c.sc]; exact hk) (by rw [c.sc]; exact h17))
    | _ => exact nf h
  | .sti i k e, p, h => by
    cases p with
    | Assign ts pe pos =>
      match ts, h with
      | [.Subscript (.Name x px) pk pt], h =>
        have h : (varB N sc i x && ckE Γ N e sc pe && ckE Γ N k sc pk && notComp pe && notSlice pk) = true := h
        simp only [Bool.and_eq_true] at h
        obtain ⟨⟨⟨⟨h1, h2⟩, h3⟩, h4⟩, h5⟩ := h
        obtain ⟨b1, b2, b3, b4⟩ := c.vis h1
        exact ss_sti b1 b2 b3 b4 (sE e pe c tk h2).se (sE k pk c tk h3).se h4 h5
    | _ => exact nf h
  | .ret e, p, h => by
    cases p with
    | Return v pos =>
      cases v with
      | none => exact nf h
      | some pe => exact ss_ret (sE e pe c tk h).se
    | _ => exact nf h
  | .retf e, p, h => by
    cases p with
    | Return v pos =>
      cases v with
      | none => exact nf h
      | some pe =>
        have h : (ckE Γ N e sc pe && frE e) = true := h
        simp only [Bool.and_eq_true] at h
        exact ss_retf ((sE e pe c tk h.1).tf h.2)
    | _ => exact nf h
  | .reto i, p, h => by
    cases p with
    | Return v pos =>
      match v, h with
      | some (.Name x px), h =>
        obtain ⟨b1, b2, b3, b4⟩ := c.vis (show varB N sc i x = true from h)
        exact ss_reto b1 b2 b3 b4
    | _ => exact nf h
  | .retn, p, h => by
    cases p with
    | Return v pos =>
      cases v with
      | none => exact ss_retn
      | some pe => exact nf h
    | _ => exact nf h
  | .ite d a b, p, h => by
    cases p with
    | If pd pa pb pos =>
      have h : (ckE Γ N d sc pd && notIf pd && ckSs Γ N sc a pa && ckSs Γ N sc b pb) = true := h
      simp only [Bool.and_eq_true] at h
      exact ss_ite ((sE d pd c tk h.1.1.1).st h.1.1.2) (sSs c xc hk tk po a pa h.1.2) (sSs c xc hk tk po b pb h.2)
    | _ => exact nf h
  | .for_ t it b, p, h => by
    cases p with
    | For tg pit pb orelse pos =>
      cases orelse with
      | nil =>
        have h : (ckT Γ N true t sc tg && ckI Γ N it sc tg pit && notSet pit && ckSs Γ N sc b pb) = true := h
        simp only [Bool.and_eq_true] at h
        exact ss_for po c.calm (sI it tg pit c tk h.1.1.2) h.1.2 (g_ok c t tg h.1.1.1) (sSs c xc hk tk po b pb h.2)
      | cons _ _ => exact nf h
    | _ => exact nf h
  | .whl d b, p, h => by
    cases p with
    | While pd pb orelse pos =>
      cases orelse with
      | nil =>
        have h : (ckE Γ N d sc pd && notIf pd && ckSs Γ N sc b pb) = true := h
        simp only [Bool.and_eq_true] at h
        exact ss_whl po ((sE d pd c tk h.1.1).st h.1.2) (sSs c xc hk tk po b pb h.2) _
      | cons _ _ => exact nf h
    | _ => exact nf h
  | .pass, p, h => by
    cases p with
    | Pass pos => exact ss_pass
    | _ => exact nf h
  | .brk, p, h => by
    cases p with
    | Break pos => exact ss_brk
    | _ => exact nf h
  | .raise n, p, h => by
    cases p with
    | Raise e cse pos =>
      match e, cse, h with
      | some (.Call (.Name nm p1) [.Constant (.str m) j p2] [] p3), none, h =>
        have h : (decide (Γ.xc[n]? = some nm) && glbB sc nm && !(nm == ("__debug__" : Str))) = true := h
        simp only [Bool.and_eq_true, decide_eq_true_eq, Bool.not_eq_true'] at h
        obtain ⟨C, e1, e2, e3, e4, e5⟩ := xc n nm h.1.1
        exact ss_raise c.calm tk (c.glb h.1.2) h.2 e1 e2 e3 e4 e5
    | _ => exact nf h
theorem sSs (c : Ctxt G ex Γ F gl lv X N sc true) (xc : Xcs G ex Γ X) (hk : sc.kind = .function) (tk : L2N.Takes X W) (po : PassesOwn (model X.prog X.w) X.A X.env X.xe) : ∀ (ss : Ss) (ps : List Stmt), ckSs Γ N sc ss ps = true → SSs G ex μ0 H0 W X ps (exs F gl ss)
  | .nil, ps, h => by
    cases ps with
    | nil => exact ss_nil
    | cons p ps => exact nf h
  | .cons s ss, ps, h => by
    cases ps with
    | nil => exact nf h
    | cons p ps =>
      have h : (ckS Γ N sc s p && ckSs Γ N sc ss ps) = true := h
      simp only [Bool.and_eq_true] at h
      exact ss_cons (sS c xc hk tk po s p h.1) (sSs c xc hk tk po ss ps h.2)
end
end
end Pv
end
section
set_option Elab.async false
set_option linter.all false
set_option maxRecDepth 100000
set_option maxHeartbeats 4000000
namespace Pv
open PySem PySem.Spec PyProof.Rows L2

def scB (N P : List Str) (sc : Scope) : Bool :=
  decide (sc.kind = .function) && !sc.isCoroutine && !sc.isGenerator && decide N.Nodup && decide (N.take P.length = P) && P.all (fun x => decide (sc.names.lookup x = some .local) || decide (sc.names.lookup x = some .cell)) && sc.names.all (fun y => !decide (y.2 = .free))
theorem scB_ok {N P : List Str} {sc : Scope} (h : scB N P sc = true) : FnScope N P sc := by
  unfold scB at h
  simp only [Bool.and_eq_true, Bool.not_eq_true', decide_eq_true_eq, List.all_eq_true, Bool.or_eq_true, decide_eq_false_iff_not] at h
  obtain ⟨⟨⟨⟨⟨⟨h1, h2⟩, h3⟩, h4⟩, h5⟩, h6⟩, h7⟩ := h
  exact ⟨h1, h2, h3, h4, h5, h6, h7⟩
def ckD (Γ : Nm) (d : Df) (s : Sd0) : Bool := scB s.N s.ps s.scope && ckSs { Γ with lam := s.lam } s.N s.scope d.body s.body && decide (s.ps.length = d.n) && decide (s.N.length = d.k) && decide (d.n ≤ d.k)

section
variable {G : Wd} {ex : Nat → Value} {Γ : Nm} {gl : Nat → Option D} {P : Program} {w : World} {K : PySem.W.Frag} {mg : Str → Option Value} {base : Heap}
theorem lift_len {g : List D → So → FR} {n : Nat} {vs : List V} {H : Hp} {Q : VK} {E : XK} (h : lift G ex g n vs H Q E) : vs.length = n := by
  obtain ⟨μ, ds, S, h, _⟩ := h
  exact h
theorem start_get {N : List Str} {vs : List V} {i : Nat} : (L2.start N vs)[i]? = if i < vs.length then (vs[i]?).map some else if i < N.length then some none else none := by
  unfold L2.start
  by_cases h : i < vs.length
  · rw [if_pos h, List.getElem?_append_left (by simpa using h), List.getElem?_map]
  · rw [if_neg h, List.getElem?_append_right (by simpa using h), List.getElem?_replicate, List.length_map]
    by_cases h2 : i < N.length
    · rw [if_pos h2, if_pos (by omega)]
    · rw [if_neg h2, if_neg (by omega)]
/-- the entry of a frame -/
theorem jn_start {μ : List Addr} {H : Hp} {N : List Str} {vs : List V} {ds : List D} {S : So} {k : Nat} (r : RelL G μ H vs ds) (c : Cells G μ H S) (t : LamX.Tabs G.T H) (hk : N.length = k) (hn : ds.length ≤ k) : Jn G μ H μ (L2.start N vs) H (ds.map .sh ++ List.replicate (k - ds.length) .no) S := by
  have hl := r.length
  refine ⟨?_, fun i d e => ?_, fun i es e => ?_, c, t, List.prefix_refl _, fun a h1 h2 => absurd h1 h2, Frm.refl⟩
  · unfold L2.start
    simp only [List.length_append, List.length_map, List.length_replicate]
    omega
  · have hi : i < ds.length := by
      rcases Nat.lt_or_ge i ds.length with h | h
      · exact h
      · rw [List.getElem?_append_right (by simpa using h), List.getElem?_replicate] at e
        split at e <;> cases e
    rw [List.getElem?_append_left (by simpa using hi), List.getElem?_map] at e
    obtain ⟨d', e1, e2⟩ := Option.map_eq_some_iff.mp e
    cases e2
    obtain ⟨v, h1, h2⟩ := r.get e1
    exact ⟨v, by rw [start_get, if_pos (by omega), h1]; rfl, h2⟩
  · exfalso
    rcases Nat.lt_or_ge i ds.length with h | h
    · rw [List.getElem?_append_left (by simpa using h), List.getElem?_map] at e
      obtain ⟨d', e1, e2⟩ := Option.map_eq_some_iff.mp e
      cases e2
    · rw [List.getElem?_append_right (by simpa using h), List.getElem?_replicate] at e
      split at e <;> cases e
theorem Jn.toRan {μ μ' : List Addr} {σ : L2.St} {H H' : Hp} {ρ : Ro} {S' : So} (J : Jn G μ H μ' σ H' ρ S') : Ran G μ H μ' H' S' := ⟨J.pre, J.new, J.frm, J.cells, J.tabs⟩

/-- what the top tells of the program's names -/
structure Top (G : Wd) (ex : Nat → Value) (Γ : Nm) (gl : Nat → Option D) (P : Program) (w : World) (K : PySem.W.Frag) (mg : Str → Option Value) (base : Heap) (Ps : List Df) (Sds : List Sd0) : Prop where
  kk : K = G.K
  fn : Γ.fn = Sds.map (·.name)
  ck : (Ps.zip Sds).all (fun q => ckD Γ q.1 q.2) = true
  len : Ps.length = Sds.length
  def_ : ∀ (f : Nat) (s : Sd0), Sds[f]? = some s → ∃ (a : Addr) (fd : FuncData), FunD K s.name s.name s.params s.body s.scope [] [] a fd ∧ mg s.name = some (.ref a) ∧ Binds K fd s.ps []
  blt : ∀ x : Str, x ∈ (["len", "abs", "max", "min", "all", "any", "sum", "tuple", "list", "int", "str", "bool", "set", "sorted", "isinstance", "range", "enumerate", "zip"] : List Str) → mg x = none
  gls : ∀ (k : Nat) (x : Str) (d : D), Γ.gl[k]? = some x → gl k = some d → ∃ u v, mg x = some u ∧ RelV v u ∧ ∀ μ H, Rel G μ H v d
  xcs : ∀ (n : Nat) (nm : Str), Γ.xc[n]? = some nm → ∃ C, ex n = .ref C ∧ PySem.W.excIn K C He.veBase "ValueError.__new__" = true ∧ mg nm = some (.ref C) ∧ PySem.W.keepIn K (.ref C) = true ∧ PySem.W.subIn K (.ref C) (.type "BaseException") = some true ∧ PySem.W.typeIn K (.ref C) = some (.type "type")
  lams : ∀ (f : Nat) (s : Sd0) (a : Addr) (fd : FuncData), Sds[f]? = some s → s.lam = true → FunD K s.name s.name s.params s.body s.scope [] [] a fd → mg s.name = some (.ref a) → ∃ c P, LamX.TabB base mg c P ∧ fd.code = .ref c ∧ (P, (s.name ++ ".<locals>.") ++ "<lambda>") ∈ G.T ∧ ∀ p ∈ G.T, p.1 = P → p.2 = (s.name ++ ".<locals>.") ++ "<lambda>"
  errf : Sds.any (·.lam) = true → ErrF K mg ex

theorem prg_ok {Ps : List Df} {Sds : List Sd0} (T : Top G ex Γ gl P w K mg base Ps Sds) : ∀ (n f : Nat) (s : Sd0) (a : Addr) (fd : FuncData), Sds[f]? = some s → FunD K s.name s.name s.params s.body s.scope [] [] a fd → mg s.name = some (.ref a) → FnOk P w K mg base (L2N.CX P w) (3 * n) a fd s.ps (lift G ex (prg Ps gl n f) s.ps.length)
  | 0, f, s, a, fd, hs, F, hmg => by
    refine ⟨fun vs H Q E h => lift_len h, fun A outer st H args us vs Q E hr e hb r h => ?_⟩
    obtain ⟨μ, ds, S, _, _, _, _, h⟩ := h
    exact h.elim
  | n + 1, f, s, a, fd, hs, F, hmg => by
    have hlt : f < Sds.length := (List.getElem?_eq_some_iff.mp hs).1
    obtain ⟨d, hd⟩ : ∃ d, Ps[f]? = some d := ⟨Ps[f]'(by rw [T.len]; exact hlt), List.getElem?_eq_getElem _⟩
    have hm : (d, s) ∈ Ps.zip Sds := List.mem_of_getElem? (i := f) (by rw [List.getElem?_zip_eq_some]; exact ⟨hd, hs⟩)
    have hc := List.all_eq_true.mp T.ck _ hm
    unfold ckD at hc
    simp only [Bool.and_eq_true, decide_eq_true_eq] at hc
    obtain ⟨⟨⟨⟨c1, c2⟩, c3⟩, c4⟩, c5⟩ := hc
    have S0 : FnScope s.N s.ps s.scope := scB_ok c1
    have F0 := F
    obtain ⟨oc, od, dV, kV, doc, pm, an, cdv, ct, osl, efd, lk, hcd, _, _⟩ := F.ex
    subst efd
    refine fn_of (k := 3 * n + 2) lk hcd S0 (fun vs H Q E h => lift_len h) fun A outer st H vs Q E hr h => ?_
    obtain ⟨μ, ds, S, hl, r, cs, tb, h⟩ := h
    have hpe : prg Ps gl (n + 1) f = runD (prg Ps gl n) gl d := by
      show (match Ps[f]? with | some d => runD (prg Ps gl n) gl d | none => fun _ _ => .bad) = _
      rw [hd]
    rw [hpe] at h
    have hds : ds.length = d.n := by rw [← r.length, hl, c3]
    unfold runD at h
    rw [if_pos hds] at h
    let X := cxOf (L2N.CX P w) P w K mg base s.N s.name s.scope a cdv A outer st H E
    have C : Ctxt G ex { Γ with lam := s.lam } (prg Ps gl n) gl (3 * n) X s.N s.scope true := by
      refine ⟨T.kk, rfl, S0.nd, rfl, rfl, hr.mono (by omega), fun g x hg => ?_, T.blt, T.gls, fun _ _ => rfl, fun hl _ => ⟨T.lams f s a _ hs hl F0 hmg, hr, T.errf (List.any_eq_true.mpr ⟨s, List.mem_of_getElem? hs, hl⟩)⟩⟩
      have hg : Γ.fn[g]? = some x := hg
      rw [T.fn, List.getElem?_map] at hg
      obtain ⟨s', e1, rfl⟩ := Option.map_eq_some_iff.mp hg
      obtain ⟨a', fd', F', m', b'⟩ := T.def_ g s' e1
      refine ⟨a', fd', s'.ps, m', F'.kp, prg_ok T n g s' a' fd' e1 F' m', b', fun ds' s0 hne => ?_⟩
      cases n with
      | zero => rfl
      | succ m =>
        have hlt : g < Sds.length := (List.getElem?_eq_some_iff.mp e1).1
        obtain ⟨d', hd'⟩ : ∃ d, Ps[g]? = some d := ⟨Ps[g]'(by rw [T.len]; exact hlt), List.getElem?_eq_getElem _⟩
        have hm : (d', s') ∈ Ps.zip Sds := List.mem_of_getElem? (i := g) (by rw [List.getElem?_zip_eq_some]; exact ⟨hd', e1⟩)
        have hc := List.all_eq_true.mp T.ck _ hm
        unfold ckD at hc
        simp only [Bool.and_eq_true, decide_eq_true_eq] at hc
        show (match Ps[g]? with | some d => runD (prg Ps gl m) gl d | none => fun _ _ => .bad) ds' s0 = .bad
        rw [hd']
        show runD _ _ _ _ _ = _
        unfold runD
        rw [if_neg (by rw [← hc.1.1.2]; exact hne)]
    have XC : Xcs G ex { Γ with lam := s.lam } X := fun m nm e => by
      obtain ⟨C, h1, h2, h3, h4, h5, h6⟩ := T.xcs m nm e
      exact ⟨C, h1, h2, h3, h4, raises_own h5 h6⟩
    have tk : L2N.Takes X (fun cls d _ H => E cls d H) := L2N.takes_of rfl rfl rfl rfl
    have po : PassesOwn (model X.prog X.w) X.A X.env X.xe := passes_of rfl
    refine ⟨_, sSs (μ0 := μ) (H0 := H) C XC S0.kind tk po d.body s.body c2, μ, _, S, jn_start (k := d.k) r cs tb c4 (by omega), ?_⟩
    rw [hds]
    generalize exs (prg Ps gl n) gl d.body (List.map Sl.sh ds ++ List.replicate (d.k - d.n) Sl.no) S = o at h ⊢
    match o, h with
    | .ok .nx ρ1 S1, h => exact fun σ' H' μ' p k J => h .non H' μ' J.toRan .non
    | .ok .br ρ1 S1, h => exact h.elim
    | .ok (.rt x) ρ1 S1, h => exact fun v σ' H' μ' p k J rv => h v H' μ' J.toRan rv
    | .ok (.ro xs) ρ1 S1, h => exact fun p vs σ' H' μ' pp k J e rl ne z => h p vs H' μ' J.toRan e rl z ne
    | .ex c ρ1 S1, h => exact fun σ' H' μ' p k J => h H' μ' J.toRan
    | .bad, h => exact h.elim
end
end Pv
end
section
set_option Elab.async false
set_option linter.all false
set_option maxRecDepth 100000
set_option maxHeartbeats 4000000
namespace Pv
open PySem PySem.Spec PyProof.Rows L2

section
variable {G : Wd} {ex : Nat → Value} {P : Program} {w : World} {K : PySem.W.Frag} {mg : Str → Option Value} {base : Heap}
/-- what the law's def promises: of the script's list, True -/
def lawSp (G : Wd) (good : List Int → Prop) : Sp := fun vs H Q E => ∃ a ns, vs = [.ref a] ∧ good ns ∧ LamX.Tabs G.T H ∧ SqL G.K H a (ns.map V.int) ∧ ∀ H', Q (.bl true) H'
theorem lift_scr {g : List D → So → FR} {good : List Int → Prop} (hg : ∀ ns, good ns → ∃ S, g [.scr ns] [] = .ok (.bl true) S) {a : Addr} {ns : List Int} {H : Hp} {Q : VK} {E : XK} (n : good ns) (t : LamX.Tabs G.T H) (s : Scr G.K H a (ns.map V.int)) (q : ∀ H', Q (.bl true) H') : lift G ex g 1 [.ref a] H Q E := by
  obtain ⟨S, e⟩ := hg ns n
  refine ⟨[], [.scr ns], [], rfl, .cons (.scr s) .nil, ⟨rfl, List.nodup_nil, fun n a c h _ => by simp at h⟩, t, ?_⟩
  rw [e]
  intro v H' μ' _ r
  cases r
  exact q H'
theorem law_fn {g : List D → So → FR} {good : List Int → Prop} {k : Nat} {f : Addr} {fd : FuncData} {x : Str} (hK : K = G.K) (F : FnOk P w K mg base (L2N.CX P w) k f fd [x] (lift G ex g 1)) (hg : ∀ ns, good ns → ∃ S, g [.scr ns] [] = .ok (.bl true) S) :
    FnOk P w K mg base (L2N.CX P w) k f fd [x] (lawSp G good) := by
  refine ⟨fun vs H Q E ⟨a, ns, e, _⟩ => by rw [e]; rfl, fun A outer s H args us vs Q E hr e0 hb r ⟨a, ns, ev, hn, ht, hs, hq⟩ => ?_⟩
  subst ev
  have noX : ∀ {H1 : Hp} {e : Value} {s' : Shared}, L2N.CX P w outer H1 s (fun _ _ _ => False) e s' → False := fun ⟨_, _, _, _, _, _, _, _, _, _, _, _, z⟩ => z
  have main : ∀ H1 : Hp, Env0 P w K mg base A outer s H1 → LamX.Tabs G.T H1 → Scr G.K H1 a (ns.map V.int) → codeAny (model P w) A (.call (.ref f) args) (CR (L2N.CX P w) outer P w H1 s Q fun _ _ _ => False) s := fun H1 e1 t1 s1 => F.run A outer s H1 args us [.ref a] Q (fun _ _ _ => False) hr e1 hb r (lift_scr hg hn t1 s1 hq)
  rcases hs with (hs | ⟨o, hs⟩) | hs
  · obtain ⟨z, its, n, rv, e⟩ := e0.hok a _ hs
    have nn : ∀ b, H b = none → b ≠ a := fun b q z => by rw [z, hs] at q; cases q
    have nt : ∀ b u, H b = some u → (∀ vs, u ≠ .lst vs) → b ≠ a := fun b u q h z => by rw [z, hs] at q; exact h _ (Option.some.inj q).symm
    generalize hH1 : upd H a (.frz { cls := .type "list", data := .seq its.toArray n } (.lst (ns.map V.int))) = H1
    have at1 : H1 a = some (.frz { cls := .type "list", data := .seq its.toArray n } (.lst (ns.map V.int))) := by rw [← hH1]; exact upd_same
    have ne1 : ∀ b, b ≠ a → H1 b = H b := fun b hb => by rw [← hH1]; exact upd_ne hb
    have e1 : Env0 P w K mg base A outer s H1 := by
      refine ⟨e0.frames, e0.mod, fun b o q => ⟨(e0.bs b o q).1, ?_⟩, e0.bsz, e0.funs, fun b hb' => ?_, fun b u q => ?_, e0.bare⟩
      · rw [ne1 b (nn b (e0.bs b o q).2)]; exact (e0.bs b o q).2
      · rw [ne1 b (nn b (e0.frf b hb'))]; exact e0.frf b hb'
      · by_cases hb' : b = a
        · subst hb'
          rw [at1] at q; cases q
          exact ⟨e, z, its, n, rv, e⟩
        · rw [ne1 b hb'] at q
          refine (e0.hok b u q).stay (fun c v _ q => q) (fun c q => ?_) fun c xs q => ?_
          · rw [ne1 c (nt c _ q (fun _ z => by cases z))]; exact q
          · rw [ne1 c (nt c _ q (fun _ z => by cases z))]; exact q
    have t1 : LamX.Tabs G.T H1 := by
      have c : Calm H H1 := by rw [← hH1]; exact Calm.upd hs
      exact c.tabs ht
    refine codeAny_mono (main H1 e1 t1 (.inl ⟨_, at1⟩)) fun r s' hr' => ?_
    cases r with
    | error e => exact (noX hr').elim
    | ok fl =>
      cases fl with
      | next => exact hr'.elim
      | brk => exact hr'.elim
      | cont => exact hr'.elim
      | ret u =>
        obtain ⟨v, H', os, bare, un, hok, rv', q⟩ := hr'
        refine ⟨v, H', os, bare, ⟨fun b o e n => un.keep b o e (by rw [ne1 b (nn b n)]; exact n), fun b o e n => un.slot b o e (by rw [ne1 b (nn b n)]; exact n), fun b o e n => un.free b o e (by rw [ne1 b (nn b n)]; exact n), un.there, fun b xs q => un.tups b xs (by rw [ne1 b (nt b _ q (fun _ z => by cases z))]; exact q), fun b o u q => un.frzs b o u (by rw [ne1 b (nt b _ q (fun _ z => by cases z))]; exact q), fun b ps q => un.tbls b ps (by rw [ne1 b (nt b _ q (fun _ z => by cases z))]; exact q)⟩, hok, rv', q⟩
  · refine codeAny_mono (main H e0 ht (.inl ⟨o, hs⟩)) fun r s' hr' => ?_
    cases r with
    | error e => exact (noX hr').elim
    | ok fl => cases fl <;> exact hr'
  · refine codeAny_mono (main H e0 ht (.inr hs)) fun r s' hr' => ?_
    cases r with
    | error e => exact (noX hr').elim
    | ok fl => cases fl <;> exact hr'
/-- the law, of what the walk asks -/
theorem law_at {l : PySem.W.OpenLaw} {h : Heap} {fa : Addr} {cs : List (Addr × Addr)} {Γ : Nm} {gl : Nat → Option D} {Ps : List Df} {Sds : List Sd0} {f n depth : Nat} {s : Sd0} {x : Str} {fd : FuncData} (hK : K = G.K)
    (h1 : ∀ p ∈ cs, h.get? p.2 = some { cls := .none, data := .fields #[] }) (h2 : ∀ p ∈ cs, K.lookup p.2 = none) (h3 : ∀ p ∈ cs, PySem.W.CodeHd h p.1 p.2)
    (hs : Sds[f]? = some s) (hp : s.ps = [x]) (F : FunD K s.name s.name s.params s.body s.scope [] [] fa fd) (hm : mg s.name = some (.ref fa)) (hbA : ∀ (st : Shared) (u : Value), BindsTo st fd ⟨[u], []⟩ [(x, u)])
    (hT : ∀ q ∈ G.T, ∃ p ∈ cs, p.2 = q.1) (T : ∀ base : Heap, K.In base → base.Ns mainGlobals mg → (∀ p ∈ cs, LamX.TabB base mg p.1 p.2) → Top G ex Γ gl l.prog w K mg base Ps Sds)
    (law : ∀ ns : List Int, ns.length ≤ n → (∀ z ∈ ns, Builtin.Int.intBits z ≤ 1048576) → ∃ S, prg Ps gl depth f [.scr ns] [] = .ok (.bl true) S) : LamX.LawAtS l w K (L2N.CX l.prog w) (3 * depth) n x mg fa h := by
  refine ⟨fd, cs, lawSp G (fun ns => ns.length ≤ n ∧ ∀ z ∈ ns, Builtin.Int.intBits z ≤ 1048576), h1, h2, h3, hbA, fun H a ns hn hz ht hsq => ⟨a, ns, rfl, ⟨hn, hz⟩, fun q hq => ?_, hK ▸ hsq, fun _ => rfl⟩, fun base kb nb tb => ?_⟩
  · obtain ⟨p, hp, e⟩ := hT q hq
    exact LamX.TabS.nil (by rw [← e]; exact ht p hp)
  · have Fn := prg_ok (T base kb nb tb) depth f s fa fd hs F hm
    rw [hp] at Fn
    exact law_fn hK Fn fun ns ⟨a, b⟩ => law ns a b
end
end Pv
end
section
set_option Elab.async false
set_option linter.all false
set_option maxRecDepth 100000
set_option maxHeartbeats 4000000
namespace Pv
open PySem PySem.Spec PyProof.Rows L2 He

theorem excB_ok {K : PySem.W.Frag} {D : Addr} (h : excB K D = true) : ExcC K D := by
  unfold excB at h
  simp only [Bool.and_eq_true, decide_eq_true_eq] at h
  obtain ⟨⟨⟨⟨⟨⟨⟨h1, h2⟩, h3⟩, h4⟩, h5⟩, h6⟩, h7⟩, h8⟩ := h
  exact ⟨eqO_ok h1, eqO_ok h2, h3, h4, eqO_ok h5, eqO_ok h6, h7, h8⟩
def flags (x : Str) : List Bool := errCs.map fun y => decide (x = y)
/-- every parameter is written -/
def BindP (s : Sd0) : Prop := ∀ (kV doc pm : Value) (an : Option Addr) (cdv ct : Value) (us : List Value), us.length = s.ps.length → bindArgs (PySem.W.fnOf s.name s.name s.params s.body s.scope .none kV doc pm an cdv ct) ⟨us, []⟩ = pure (s.ps.zip us)
inductive AllP (p : Sd0 → Prop) : List Sd0 → Prop
  | nil : AllP p []
  | cons {s : Sd0} {l : List Sd0} : p s → AllP p l → AllP p (s :: l)
theorem AllP.get {p : Sd0 → Prop} : ∀ {l : List Sd0}, AllP p l → ∀ s ∈ l, p s
  | _, .cons h _, _, .head _ => h
  | _, .cons _ t, _, .tail _ hm => t.get _ hm

section
variable {K : PySem.W.Frag} {h : Heap} {w : World} {mg : Str → Option Value} {Sds : List Sd0} {xcs : List Str} {intL : List (Str × Int)} {tf : List Defn} {extra : List DefD} {exb : PySem.W.Frag → Bool} {more : List Fa}
/-- the errors' facts -/
theorem err_of {sn se : Sd0} {pn pe : Str} (X : K.In h) (Gn : h.Ns mainGlobals mg) (c : SaysX (faOf (sn :: se :: Sds) xcs intL ++ more) ((sn :: se :: Sds).map dD) [] tf exb w h K) (hx : exB K = true) (e1 : sn.name = "_law_named_error") (e2 : se.name = "_law_error") (p1 : sn.ps = [pn]) (p2 : se.ps = [pe]) (b1 : BindP sn) (b2 : BindP se)
    (s1 : scB sn.N sn.ps sn.scope = true) (s2 : scB se.N se.ps se.scope = true) (n1 : namB sn.N sn.scope sn.body = true) (n2 : errB se.N se.scope se.body = true) {ex : Nat → Value} {st1 st2 : Stmt} (a1 : sn.params = defArgs st1 ∧ sn.body = defBody st1 ∧ sn.scope = defScope st1) (a2 : se.params = defArgs st2 ∧ se.body = defBody st2 ∧ se.scope = defScope st2)
    (hs : Str.ofString "SpeedError" ∈ xcs) (hex : ∀ n nm, errN n = some nm → ∃ x ∈ errCs, ex n = .ref (ga K x) ∧ Txt.join (Str.ofString " ") (pickW (Txt.split errWs (Str.ofString " ")) (flags x ++ [true])) = nm) (hin : ∀ x ∈ errCs, x ∈ xcs) : ErrF K mg ex := by
  have d := SaysT.d c.t
  have fact : ∀ f, f ∈ faOf (sn :: se :: Sds) xcs intL → f.ok K = true := fun f hf => SaysD.facts d (List.mem_append_left _ hf)
  have glo : ∀ x ∈ xcs, mg x = some (.ref (ga K x)) := fun x hx => glo_ok X Gn (fact _ (by
    unfold faOf
    simp only [List.mem_append]
    exact .inl (.inl (.inl (.inr (List.mem_map.mpr ⟨x, hx, rfl⟩))))))
  have fre : ∀ x ∈ bltNs, mg x = none := fun x hx => free_ok X Gn (fact _ (by
    unfold faOf
    simp only [List.mem_append]
    exact .inl (.inl (.inl (.inl (.inl (.inr (List.mem_map.mpr ⟨x, hx, rfl⟩))))))))
  have dfn : ∀ s ∈ (sn :: se :: Sds), (∃ fd, FunD K s.name s.name s.params s.body s.scope [] [] (ga K s.name) fd) ∧ mg s.name = some (.ref (ga K s.name)) := fun s hs => by
    obtain ⟨fd, F⟩ := SaysD.defs d (d := dD s) (List.mem_map.mpr ⟨s, hs, rfl⟩)
    exact ⟨⟨fd, F⟩, glo_ok X Gn (fact _ (by
      unfold faOf
      simp only [List.mem_append]
      exact .inl (.inl (.inl (.inl (.inl (.inl (List.mem_map.mpr ⟨s, hs, rfl⟩))))))))⟩
  obtain ⟨⟨f1, F1⟩, m1⟩ := dfn sn (List.mem_cons_self)
  obtain ⟨⟨f2, F2⟩, m2⟩ := dfn se (List.mem_cons_of_mem _ List.mem_cons_self)
  have B1 : Binds K f1 sn.ps [] := F1.bindsN b1
  have B2 : Binds K f2 se.ps [] := F2.bindsN b2
  refine ⟨⟨sn.N, pn, st1, ga K sn.name, f1, ?_, ?_, by rw [← p1]; exact B1, by rw [← p1, ← a1.2.2]; exact scB_ok s1, by rw [← a1.2.1, ← a1.2.2]; exact n1⟩, ⟨se.N, pe, st2, ga K se.name, f2, ?_, ?_, by rw [← p2]; exact B2, by rw [← p2, ← a2.2.2]; exact scB_ok s2, by rw [← a2.2.1, ← a2.2.2]; exact n2⟩, ga K "SpeedError", glo _ hs, fun n nm en => ?_⟩
  · rw [← a1.1, ← a1.2.1, ← a1.2.2]; rw [e1] at F1 ⊢; exact F1
  · rw [e1] at m1 ⊢; exact m1
  · rw [← a2.1, ← a2.2.1, ← a2.2.2]; rw [e2] at F2 ⊢; exact F2
  · rw [e2] at m2 ⊢; exact m2
  · obtain ⟨x, hxm, e3, e4⟩ := hex n nm en
    have q := List.all_eq_true.mp hx x hxm
    simp only [Bool.and_eq_true, decide_eq_true_eq, List.all_eq_true] at q
    obtain ⟨⟨q1, q2⟩, q3⟩ := q
    refine ⟨ga K x, flags x, e3, ⟨excB_ok q1, fun i y hy => ?_, by unfold flags; rw [List.length_map], q3, fre _ (by decide), fre _ (by decide), free_ok X Gn (fact (.free "ValueError") (by unfold faOf; simp))⟩, exm_ok (fact (.exm x "SpeedError" true) (by
      unfold faOf
      simp only [List.mem_append]
      exact .inl (.inr (List.mem_map.mpr ⟨x, hxm, rfl⟩)))), e4⟩
    have hy' : y ∈ errCs := List.mem_of_getElem? hy
    exact ⟨ga K y, decide (x = y), glo y (hin y hy'), by unfold flags; rw [List.getElem?_map, hy]; rfl, q2 y hy'⟩
/-- the tables of the defs that hold lambdas -/
def tabT (K : PySem.W.Frag) (tf : List Str) : List (Addr × Str) := tf.map fun x => ((cT K (x, none)).2, (x ++ ".<locals>.") ++ "<lambda>")
theorem nodup_map_inj {α β : Type} {f : α → β} : ∀ {l : List α}, (l.map f).Nodup → ∀ x ∈ l, ∀ y ∈ l, f x = f y → x = y
  | [], _, x, hx, _, _, _ => by cases hx
  | a :: l, nd, x, hx, y, hy, e => by
    rw [List.map_cons, List.nodup_cons] at nd
    rcases List.mem_cons.mp hx with rfl | hx2 <;> rcases List.mem_cons.mp hy with rfl | hy2
    · rfl
    · exact (nd.1 (List.mem_map.mpr ⟨y, hy2, e.symm⟩)).elim
    · exact (nd.1 (List.mem_map.mpr ⟨x, hx2, e⟩)).elim
    · exact nodup_map_inj nd.2 x hx2 y hy2 e
/-- the program's names -/
theorem top_of {Sp : List Sd0} {P : Program} {base : Heap} {Γ : Nm} {gl : Nat → Option D} {Ps : List Df} {tl : List Str} (X : K.In h) (Gn : h.Ns mainGlobals mg) (c : SaysX (faOf Sds xcs intL ++ more) (Sds.map dD) [] tf exb w h K) (hsub : ∀ s ∈ Sp, s ∈ Sds) (hfn : Γ.fn = Sp.map (·.name)) (hxc : Γ.xc = xcs)
    (ck : (Ps.zip Sp).all (fun q => ckD Γ q.1 q.2) = true) (len : Ps.length = Sp.length) (bp : AllP BindP Sp) (hgl : ∀ k x d, Γ.gl[k]? = some x → gl k = some d → ∃ i, (x, i) ∈ intL ∧ d = .int i) (hlam : ∀ s ∈ Sp, s.lam = true → s.name ∈ tl) (hnd : tabNd tl K = true) (tb : ∀ p ∈ tl.map (fun x => cT K (x, none)), LamX.TabB base mg p.1 p.2)
    (herr : Sp.any (·.lam) = true → ErrF K mg fun n => .ref (ga K (xcs.getD n Str.empty))) : Top ⟨K, fun _ => 0, tabT K tl⟩ (fun n => .ref (ga K (xcs.getD n Str.empty))) Γ gl P w K mg base Ps Sp := by
  have d := SaysT.d c.t
  have fact : ∀ f, f ∈ faOf Sds xcs intL → f.ok K = true := fun f hf => SaysD.facts d (List.mem_append_left _ hf)
  have dfn : ∀ s ∈ Sds, (∃ fd, FunD K s.name s.name s.params s.body s.scope [] [] (ga K s.name) fd) ∧ mg s.name = some (.ref (ga K s.name)) := fun s hs => by
    obtain ⟨fd, F⟩ := SaysD.defs d (d := dD s) (List.mem_map.mpr ⟨s, hs, rfl⟩)
    exact ⟨⟨fd, F⟩, glo_ok X Gn (fact _ (by
      unfold faOf
      simp only [List.mem_append]
      exact .inl (.inl (.inl (.inl (.inl (.inl (List.mem_map.mpr ⟨s, hs, rfl⟩))))))))⟩
  refine ⟨rfl, hfn, ck, len, fun f s hs => ?_, fun x hx => free_ok X Gn (fact _ (by
    unfold faOf
    simp only [List.mem_append]
    exact .inl (.inl (.inl (.inl (.inl (.inr (List.mem_map.mpr ⟨x, hx, rfl⟩)))))))), fun k x dd h1 h2 => ?_, fun n nm hn => ?_, fun f s a fd hs hl F hm => ?_, herr⟩
  · have hm := List.mem_of_getElem? hs
    obtain ⟨⟨fd, F⟩, m⟩ := dfn s (hsub s hm)
    exact ⟨_, fd, F, m, F.bindsN (bp.get s hm)⟩
  · obtain ⟨i, hi, rfl⟩ := hgl k x dd h1 h2
    obtain ⟨t, e⟩ := He.int_ok X Gn (fact (.int x i) (by
      unfold faOf
      simp only [List.mem_append]
      exact .inl (.inl (.inr (List.mem_map.mpr ⟨(x, i), hi, rfl⟩)))))
    exact ⟨_, .int i, e, ⟨t, rfl⟩, fun _ _ => .int i⟩
  · rw [hxc] at hn
    have hx := List.mem_of_getElem? hn
    have e : xcs.getD n Str.empty = nm := by rw [List.getD_eq_getElem?_getD, hn]; rfl
    obtain ⟨k1, k2, k3, k4⟩ := exc_ok (fact (.exc nm) (by
      unfold faOf
      simp only [List.mem_append]
      exact .inl (.inl (.inl (.inl (.inr (List.mem_map.mpr ⟨nm, hx, rfl⟩)))))))
    exact ⟨ga K nm, by rw [e], k1, glo_ok X Gn (fact (.glo nm) (by
      unfold faOf
      simp only [List.mem_append]
      exact .inl (.inl (.inl (.inr (List.mem_map.mpr ⟨nm, hx, rfl⟩)))))), k2, k3, k4⟩
  · have hmS := List.mem_of_getElem? hs
    have hin := hlam s hmS hl
    obtain ⟨_, m⟩ := dfn s (hsub s hmS)
    rw [hm] at m
    have ea : a = ga K s.name := by cases m; rfl
    subst ea
    obtain ⟨oc, od, dV, kV, doc, pm, an, cdv, ct, osl, efd, lk, hcd, _, _⟩ := F.ex
    obtain ⟨cc, ecc⟩ := codeIn_ref hcd
    have hcode : fd.code = .ref cc := by rw [efd]; exact ecc
    have hco : codeOf K (s.name, none) = cc := codeOf_eq lk hcode
    refine ⟨cc, (cT K (s.name, none)).2, ?_, hcode, List.mem_map.mpr ⟨s.name, hin, rfl⟩, fun p hp e => ?_⟩
    · have := tb _ (List.mem_map.mpr ⟨s.name, hin, rfl⟩)
      rw [show (cT K (s.name, none)).1 = codeOf K (s.name, none) from rfl, hco] at this
      exact this
    · obtain ⟨y, hy, rfl⟩ := List.mem_map.mp hp
      have := nodup_map_inj (of_decide_eq_true hnd) y hy s.name hin e
      rw [this]
end
end Pv
end
section
set_option Elab.async false
set_option linter.all false
set_option maxRecDepth 100000
set_option maxHeartbeats 4000000
namespace Lw
open PySem PySem.Spec PyProof.Rows L2 Pv
theorem b_divisor_of : BindP s_divisor_of := fun _ _ _ _ _ _ us hl => match us, hl with | [_, _], _ => rfl
theorem c_divisor_of : ckD GNm d_divisor_of s_divisor_of = true := by decide +kernel
theorem b_lowest : BindP s_lowest := fun _ _ _ _ _ _ us hl => match us, hl with | [_, _], _ => rfl
theorem c_lowest : ckD GNm d_lowest s_lowest = true := by decide +kernel
theorem b_worth : BindP s_worth := fun _ _ _ _ _ _ us hl => match us, hl with | [_, _], _ => rfl
theorem c_worth : ckD GNm d_worth s_worth = true := by decide +kernel
theorem b_is_plain : BindP s_is_plain := fun _ _ _ _ _ _ us hl => match us, hl with | [_], _ => rfl
theorem c_is_plain : ckD GNm d_is_plain s_is_plain = true := by decide +kernel
theorem b_is_whole : BindP s_is_whole := fun _ _ _ _ _ _ us hl => match us, hl with | [_, _, _], _ => rfl
theorem c_is_whole : ckD GNm d_is_whole s_is_whole = true := by decide +kernel
theorem b_is_leg : BindP s_is_leg := fun _ _ _ _ _ _ us hl => match us, hl with | [_], _ => rfl
theorem c_is_leg : ckD GNm d_is_leg s_is_leg = true := by decide +kernel
theorem b_is_script : BindP s_is_script := fun _ _ _ _ _ _ us hl => match us, hl with | [_], _ => rfl
theorem c_is_script : ckD GNm d_is_script s_is_script = true := by decide +kernel
theorem b_is_pair : BindP s_is_pair := fun _ _ _ _ _ _ us hl => match us, hl with | [_], _ => rfl
theorem c_is_pair : ckD GNm d_is_pair s_is_pair = true := by decide +kernel
theorem b_need_pair : BindP s_need_pair := fun _ _ _ _ _ _ us hl => match us, hl with | [_], _ => rfl
theorem c_need_pair : ckD GNm d_need_pair s_need_pair = true := by decide +kernel
theorem b_need_paces : BindP s_need_paces := fun _ _ _ _ _ _ us hl => match us, hl with | [_], _ => rfl
theorem c_need_paces : ckD GNm d_need_paces s_need_paces = true := by decide +kernel
theorem b_need_walk : BindP s_need_walk := fun _ _ _ _ _ _ us hl => match us, hl with | [_, _], _ => rfl
theorem c_need_walk : ckD GNm d_need_walk s_need_walk = true := by decide +kernel
theorem b_need_walker : BindP s_need_walker := fun _ _ _ _ _ _ us hl => match us, hl with | [_], _ => rfl
theorem c_need_walker : ckD GNm d_need_walker s_need_walker = true := by decide +kernel
theorem b_minus : BindP s_minus := fun _ _ _ _ _ _ us hl => match us, hl with | [_, _], _ => rfl
theorem c_minus : ckD GNm d_minus s_minus = true := by decide +kernel
theorem b_walked : BindP s_walked := fun _ _ _ _ _ _ us hl => match us, hl with | [_, _, _], _ => rfl
theorem c_walked : ckD GNm d_walked s_walked = true := by decide +kernel
theorem b_place_ahead : BindP s_place_ahead := fun _ _ _ _ _ _ us hl => match us, hl with | [_, _], _ => rfl
theorem c_place_ahead : ckD GNm d_place_ahead s_place_ahead = true := by decide +kernel
theorem b_more_times : BindP s_more_times := fun _ _ _ _ _ _ us hl => match us, hl with | [_, _, _, _, _], _ => rfl
theorem c_more_times : ckD GNm d_more_times s_more_times = true := by decide +kernel
theorem b_times_at : BindP s_times_at := fun _ _ _ _ _ _ us hl => match us, hl with | [_, _], _ => rfl
theorem c_times_at : ckD GNm d_times_at s_times_at = true := by decide +kernel
theorem b_moves_of : BindP s_moves_of := fun _ _ _ _ _ _ us hl => match us, hl with | [_, _], _ => rfl
theorem c_moves_of : ckD GNm d_moves_of s_moves_of = true := by decide +kernel
theorem b_done_at : BindP s_done_at := fun _ _ _ _ _ _ us hl => match us, hl with | [_, _], _ => rfl
theorem c_done_at : ckD GNm d_done_at s_done_at = true := by decide +kernel
theorem b_place_then : BindP s_place_then := fun _ _ _ _ _ _ us hl => match us, hl with | [_, _, _, _], _ => rfl
theorem c_place_then : ckD GNm d_place_then s_place_then = true := by decide +kernel
theorem b_need_time : BindP s_need_time := fun _ _ _ _ _ _ us hl => match us, hl with | [_], _ => rfl
theorem c_need_time : ckD GNm d_need_time s_need_time = true := by decide +kernel
theorem b_place_at : BindP s_place_at := fun _ _ _ _ _ _ us hl => match us, hl with | [_, _, _, _], _ => rfl
theorem c_place_at : ckD GNm d_place_at s_place_at = true := by decide +kernel
theorem b_constant : BindP s_constant := fun _ _ _ _ _ _ us hl => match us, hl with | [_, _], _ => rfl
theorem c_constant : ckD GNm d_constant s_constant = true := by decide +kernel
theorem b_quotient : BindP s_quotient := fun _ _ _ _ _ _ us hl => match us, hl with | [_, _, _], _ => rfl
theorem c_quotient : ckD GNm d_quotient s_quotient = true := by decide +kernel
theorem b_crossing : BindP s_crossing := fun _ _ _ _ _ _ us hl => match us, hl with | [_, _, _], _ => rfl
theorem c_crossing : ckD GNm d_crossing s_crossing = true := by decide +kernel
theorem b_sign_of : BindP s_sign_of := fun _ _ _ _ _ _ us hl => match us, hl with | [_], _ => rfl
theorem c_sign_of : ckD GNm d_sign_of s_sign_of = true := by decide +kernel
theorem b_gap_then : BindP s_gap_then := fun _ _ _ _ _ _ us hl => match us, hl with | [_, _, _], _ => rfl
theorem c_gap_then : ckD GNm d_gap_then s_gap_then = true := by decide +kernel
theorem b_whole_then : BindP s_whole_then := fun _ _ _ _ _ _ us hl => match us, hl with | [_, _, _], _ => rfl
theorem c_whole_then : ckD GNm d_whole_then s_whole_then = true := by decide +kernel
theorem b_moving : BindP s_moving := fun _ _ _ _ _ _ us hl => match us, hl with | [_, _, _], _ => rfl
theorem c_moving : ckD GNm d_moving s_moving = true := by decide +kernel
theorem b_met : BindP s_met := fun _ _ _ _ _ _ us hl => match us, hl with | [_, _], _ => rfl
theorem c_met : ckD GNm d_met s_met = true := by decide +kernel
theorem b_value_of : BindP s_value_of := fun _ _ _ _ _ _ us hl => match us, hl with | [_, _], _ => rfl
theorem c_value_of : ckD GNm d_value_of s_value_of = true := by decide +kernel
theorem b_seen_at : BindP s_seen_at := fun _ _ _ _ _ _ us hl => match us, hl with | [_, _], _ => rfl
theorem c_seen_at : ckD GNm d_seen_at s_seen_at = true := by decide +kernel
theorem b_meetings : BindP s_meetings := fun _ _ _ _ _ _ us hl => match us, hl with | [_, _], _ => rfl
theorem c_meetings : ckD GNm d_meetings s_meetings = true := by decide +kernel
theorem b__law_cell : BindP s__law_cell := fun _ _ _ _ _ _ us hl => match us, hl with | [_, _], _ => rfl
theorem c__law_cell : ckD GNm d__law_cell s__law_cell = true := by decide +kernel
theorem b__law_draws : BindP s__law_draws := fun _ _ _ _ _ _ us hl => match us, hl with | [_, _, _, _], _ => rfl
theorem c__law_draws : ckD GNm d__law_draws s__law_draws = true := by decide +kernel
theorem b__law_bag : BindP s__law_bag := fun _ _ _ _ _ _ us hl => match us, hl with | [_, _], _ => rfl
theorem c__law_bag : ckD GNm d__law_bag s__law_bag = true := by decide +kernel
theorem b__law_take : BindP s__law_take := fun _ _ _ _ _ _ us hl => match us, hl with | [_, _], _ => rfl
theorem c__law_take : ckD GNm d__law_take s__law_take = true := by decide +kernel
theorem b__law_script : BindP s__law_script := fun _ _ _ _ _ _ us hl => match us, hl with | [_, _, _], _ => rfl
theorem c__law_script : ckD GNm d__law_script s__law_script = true := by decide +kernel
theorem b__law_pair : BindP s__law_pair := fun _ _ _ _ _ _ us hl => match us, hl with | [_, _], _ => rfl
theorem c__law_pair : ckD GNm d__law_pair s__law_pair = true := by decide +kernel
theorem b__law_lowest : BindP s__law_lowest := fun _ _ _ _ _ _ us hl => match us, hl with | [_, _], _ => rfl
theorem c__law_lowest : ckD GNm d__law_lowest s__law_lowest = true := by decide +kernel
theorem b__law_spots : BindP s__law_spots := fun _ _ _ _ _ _ us hl => match us, hl with | [_], _ => rfl
theorem c__law_spots : ckD GNm d__law_spots s__law_spots = true := by decide +kernel
theorem b__law_clock : BindP s__law_clock := fun _ _ _ _ _ _ us hl => match us, hl with | [_, _], _ => rfl
theorem c__law_clock : ckD GNm d__law_clock s__law_clock = true := by decide +kernel
theorem b__law_top : BindP s__law_top := fun _ _ _ _ _ _ us hl => match us, hl with | [_, _, _, _], _ => rfl
theorem c__law_top : ckD GNm d__law_top s__law_top = true := by decide +kernel
theorem b__law_gaps : BindP s__law_gaps := fun _ _ _ _ _ _ us hl => match us, hl with | [_, _], _ => rfl
theorem c__law_gaps : ckD GNm d__law_gaps s__law_gaps = true := by decide +kernel
theorem b__law_together : BindP s__law_together := fun _ _ _ _ _ _ us hl => match us, hl with | [_, _], _ => rfl
theorem c__law_together : ckD GNm d__law_together s__law_together = true := by decide +kernel
theorem b__law_place : BindP s__law_place := fun _ _ _ _ _ _ us hl => match us, hl with | [_, _, _], _ => rfl
theorem c__law_place : ckD GNm d__law_place s__law_place = true := by decide +kernel
theorem b__law_met : BindP s__law_met := fun _ _ _ _ _ _ us hl => match us, hl with | [_, _], _ => rfl
theorem c__law_met : ckD GNm d__law_met s__law_met = true := by decide +kernel
theorem b__law_refused : BindP s__law_refused := fun _ _ _ _ _ _ us hl => match us, hl with | [_], _ => rfl
theorem c__law_refused : ckD GNm d__law_refused s__law_refused = true := by decide +kernel
theorem b_law : BindP s_law := fun _ _ _ _ _ _ us hl => match us, hl with | [_], _ => rfl
theorem c_law : ckD GNm d_law s_law = true := by decide +kernel
theorem b__law_named_error : BindP s__law_named_error := fun _ _ _ _ _ _ us hl => match us, hl with | [_], _ => rfl
theorem b__law_error : BindP s__law_error := fun _ _ _ _ _ _ us hl => match us, hl with | [_], _ => rfl
theorem n_named : namB s__law_named_error.N s__law_named_error.scope s__law_named_error.body = true := by decide +kernel
theorem n_error : errB s__law_error.N s__law_error.scope s__law_error.body = true := by decide +kernel
theorem ck : (Ps.zip Sp).all (fun q => ckD GNm q.1 q.2) = true := by decide +kernel
theorem bp : Pv.AllP BindP Sp := .cons b_divisor_of (.cons b_lowest (.cons b_worth (.cons b_is_plain (.cons b_is_whole (.cons b_is_leg (.cons b_is_script (.cons b_is_pair (.cons b_need_pair (.cons b_need_paces (.cons b_need_walk (.cons b_need_walker (.cons b_minus (.cons b_walked (.cons b_place_ahead (.cons b_more_times (.cons b_times_at (.cons b_moves_of (.cons b_done_at (.cons b_place_then (.cons b_need_time (.cons b_place_at (.cons b_constant (.cons b_quotient (.cons b_crossing (.cons b_sign_of (.cons b_gap_then (.cons b_whole_then (.cons b_moving (.cons b_met (.cons b_value_of (.cons b_seen_at (.cons b_meetings (.cons b__law_cell (.cons b__law_draws (.cons b__law_bag (.cons b__law_take (.cons b__law_script (.cons b__law_pair (.cons b__law_lowest (.cons b__law_spots (.cons b__law_clock (.cons b__law_top (.cons b__law_gaps (.cons b__law_together (.cons b__law_place (.cons b__law_met (.cons b__law_refused (.cons b_law (.nil)))))))))))))))))))))))))))))))))))))))))))))))))
end Lw
end
section
set_option Elab.async false
set_option linter.all false
set_option maxRecDepth 100000
set_option maxHeartbeats 1000000
namespace Pv
open PySem
/-- behind what came out -/
def outK {α β : Type} (f : α → M β) : Out α → Out β
  | .ok a ρ s => f a ρ s
  | .ex c ρ s => .ex c ρ s
  | .bad => .bad
@[simp ↓, simp] theorem outK_ok {α β : Type} {f : α → M β} {a : α} {ρ : Ro} {s : So} : outK f (.ok a ρ s) = f a ρ s := Eq.trans rfl rfl
@[simp ↓, simp] theorem outK_ex {α β : Type} {f : α → M β} {c : Nat} {ρ : Ro} {s : So} : outK f (.ex c ρ s) = .ex c ρ s := Eq.trans rfl rfl
@[simp ↓, simp] theorem outK_ite {α β : Type} {f : α → M β} {c : Prop} [Decidable c] {x y : Out α} : outK f (if c then x else y) = if c then outK f x else outK f y := by split <;> rfl
def callK {β : Type} (f : D → M β) (ρ : Ro) : FR → Out β
  | .ok d s1 => f d ρ s1
  | .own xs s1 => f (.lst xs) ρ s1
  | .ex c s1 => .ex c ρ s1
  | .bad => .bad
@[simp ↓, simp] theorem callK_ok {β : Type} {f : D → M β} {ρ : Ro} {d : D} {s1 : So} : callK f ρ (.ok d s1) = f d ρ s1 := Eq.trans rfl rfl
@[simp ↓, simp] theorem callK_own {β : Type} {f : D → M β} {ρ : Ro} {d : List D} {s1 : So} : callK f ρ (.own d s1) = f (.lst d) ρ s1 := Eq.trans rfl rfl
@[simp ↓, simp] theorem callK_ex {β : Type} {f : D → M β} {ρ : Ro} {c : Nat} {s1 : So} : callK f ρ (.ex c s1) = .ex c ρ s1 := Eq.trans rfl rfl
@[simp ↓, simp] theorem callK_ite {β : Type} {f : D → M β} {ρ : Ro} {c : Prop} [Decidable c] {x y : FR} : callK f ρ (if c then x else y) = if c then callK f ρ x else callK f ρ y := by split <;> rfl
def errK {β : Type} (f : D → M β) (ρ : Ro) : FR → Out β
  | .ok _ s1 => f (.str Str.empty) ρ s1
  | .own _ s1 => f (.str Str.empty) ρ s1
  | .ex c s1 => match errN c with
    | some nm => f (.str nm) ρ s1
    | none => .bad
  | .bad => .bad
@[simp ↓, simp] theorem errK_ok {β : Type} {f : D → M β} {ρ : Ro} {d : D} {s1 : So} : errK f ρ (.ok d s1) = f (.str Str.empty) ρ s1 := Eq.trans rfl rfl
@[simp ↓, simp] theorem errK_own {β : Type} {f : D → M β} {ρ : Ro} {d : List D} {s1 : So} : errK f ρ (.own d s1) = f (.str Str.empty) ρ s1 := Eq.trans rfl rfl
@[simp ↓, simp] theorem errK_ex {β : Type} {f : D → M β} {ρ : Ro} {c : Nat} {s1 : So} {nm : Str} (h : errN c = some nm) : errK f ρ (.ex c s1) = f (.str nm) ρ s1 := by unfold errK; simp only [h]
@[simp ↓, simp] theorem errK_ite {β : Type} {f : D → M β} {ρ : Ro} {c : Prop} [Decidable c] {x y : FR} : errK f ρ (if c then x else y) = if c then errK f ρ x else errK f ρ y := by split <;> rfl
def calK {β : Type} (f : D → M β) (ρ : Ro) : FR → Out β
  | .own xs s1 => f (.lst xs) ρ s1
  | .ex c s1 => .ex c ρ s1
  | _ => .bad
@[simp ↓, simp] theorem calK_own {β : Type} {f : D → M β} {ρ : Ro} {d : List D} {s1 : So} : calK f ρ (.own d s1) = f (.lst d) ρ s1 := Eq.trans rfl rfl
def cmpK {β : Type} (f : D → M β) (ρ : Ro) (own : List Nat) : Out (List D) → Out β
  | .ok l ρ1 s1 => f (.lst l) (backR ρ ρ1 own) s1
  | _ => .bad
@[simp ↓, simp] theorem cmpK_ok {β : Type} {f : D → M β} {ρ ρ1 : Ro} {own : List Nat} {l : List D} {s1 : So} : cmpK f ρ own (.ok l ρ1 s1) = f (.lst l) (backR ρ ρ1 own) s1 := Eq.trans rfl rfl
def noK {α β : Type} (f : α → M β) : Out α → Out β
  | .ok a ρ s => f a ρ s
  | _ => .bad
@[simp ↓, simp] theorem noK_ok {α β : Type} {f : α → M β} {a : α} {ρ : Ro} {s : So} : noK f (.ok a ρ s) = f a ρ s := Eq.trans rfl rfl
section
variable {α β γ : Type} {m : M α} {f : α → M β} {g : β → M γ} {ρ ρ1 : Ro} {s s1 : So}
theorem bind_asc : (m.bind f).bind g = m.bind fun a => (f a).bind g := by
  funext ρ s
  unfold M.bind
  cases m ρ s <;> rfl
@[simp ↓] theorem bind_ascA : (m.bind f).bind g ρ s = m.bind (fun a => (f a).bind g) ρ s := by rw [bind_asc]
theorem bind_pure : m.bind M.pure = m := by
  funext ρ s
  unfold M.bind M.pure
  cases m ρ s <;> rfl
@[simp ↓] theorem bind_pur {a : α} : (M.pure a).bind f ρ s = f a ρ s := Eq.trans rfl rfl
@[simp ↓] theorem pure_ap {a : α} : M.pure a ρ s = .ok a ρ s := Eq.trans rfl rfl
theorem bind_eq {a : α} (h : m ρ s = .ok a ρ1 s1) : m.bind f ρ s = f a ρ1 s1 := by unfold M.bind; rw [h]
theorem bind_exE {c : Nat} (h : m ρ s = .ex c ρ1 s1) : m.bind f ρ s = .ex c ρ1 s1 := by unfold M.bind; rw [h]
@[simp ↓] theorem bind_of {o : Option α} {a : α} (h : o = some a) : (M.of o).bind f ρ s = f a ρ s := by subst h; rfl
@[simp ↓] theorem of_ap {o : Option α} {a : α} (h : o = some a) : M.of o ρ s = .ok a ρ s := by subst h; rfl
@[simp ↓] theorem ite_ap {c : Prop} [Decidable c] {x y : M α} : (if c then x else y) ρ s = if c then x ρ s else y ρ s := by split <;> rfl
@[simp ↓] theorem ite_bnd {c : Prop} [Decidable c] {x y : M α} : (if c then x else y).bind f ρ s = if c then x.bind f ρ s else y.bind f ρ s := by split <;> rfl
end
def setSl : Ro → Nat → Sl → Option Ro
  | [], _, _ => none
  | _ :: l, 0, x => some (x :: l)
  | a :: l, n + 1, x => (setSl l n x).map (a :: ·)
@[simp] theorem setSl_z {a x : Sl} {l : Ro} : setSl (a :: l) 0 x = some (x :: l) := Eq.trans rfl rfl
@[simp] theorem setSl_s {a x : Sl} {l : Ro} {n : Nat} : setSl (a :: l) (n + 1) x = (setSl l n x).map (a :: ·) := Eq.trans rfl rfl
theorem setSl_eq : ∀ {ρ ρ1 : Ro} {i : Nat} {x : Sl}, setSl ρ i x = some ρ1 → i < ρ.length ∧ ρ.set i x = ρ1
  | _ :: l, _, 0, x, h => by
    simp only [setSl_z, Option.some.injEq] at h
    exact ⟨by simp, by simpa using h⟩
  | a :: l, _, n + 1, x, h => by
    simp only [setSl_s, Option.map_eq_some_iff] at h
    obtain ⟨r, h1, rfl⟩ := h
    obtain ⟨k1, k2⟩ := setSl_eq h1
    exact ⟨by simpa using k1, by simp [k2]⟩
section
variable {β : Type} {ρ ρ1 : Ro} {s s1 : So}
@[simp ↓] theorem bind_sh {i : Nat} {d : D} {f : D → M β} (h : ρ[i]? = some (.sh d)) : (getSh i).bind f ρ s = f d ρ s := by
  unfold M.bind getSh; rw [h]
@[simp ↓] theorem bind_ow {i : Nat} {d : List D} {f : List D → M β} (h : ρ[i]? = some (.ow d)) : (getOw i).bind f ρ s = f d ρ s := by
  unfold M.bind getOw; rw [h]
@[simp ↓] theorem sh_ap {i : Nat} {d : D} (h : ρ[i]? = some (.sh d)) : getSh i ρ s = .ok d ρ s := by
  unfold getSh; rw [h]
@[simp ↓] theorem ow_ap {i : Nat} {d : List D} (h : ρ[i]? = some (.ow d)) : getOw i ρ s = .ok d ρ s := by
  unfold getOw; rw [h]
@[simp ↓] theorem bind_fz {i : Nat} {d : List D} {f : D → M β} (h : ρ[i]? = some (.ow d)) (h2 : setSl ρ i (.sh (.lst d)) = some ρ1) : (frzSl i).bind f ρ s = f (.lst d) ρ1 s := by
  unfold M.bind frzSl; rw [h, ← (setSl_eq h2).2]
@[simp ↓] theorem bind_put {i : Nat} {x : Sl} {f : Unit → M β} (h : setSl ρ i x = some ρ1) : (putSl i x).bind f ρ s = f () ρ1 s := by
  unfold M.bind putSl; rw [if_pos (setSl_eq h).1, (setSl_eq h).2]
@[simp ↓] theorem put_ap {i : Nat} {x : Sl} (h : setSl ρ i x = some ρ1) : putSl i x ρ s = .ok () ρ1 s := by
  unfold putSl; rw [if_pos (setSl_eq h).1, (setSl_eq h).2]
@[simp ↓] theorem bind_call {h : List D → So → FR} {ds : List D} {r : FR} {f : D → M β} (e : h ds s = r) : (callM h ds).bind f ρ s = callK f ρ r := by
  unfold M.bind callM callK; subst e; cases h ds s <;> rfl
@[simp ↓] theorem call_ap {h : List D → So → FR} {ds : List D} {r : FR} (e : h ds s = r) : callM h ds ρ s = callK M.pure ρ r := by
  unfold callM callK; subst e; cases h ds s <;> rfl
@[simp ↓] theorem bind_calloM {h : List D → So → FR} {ds : List D} {r : FR} {f : D → M β} (e : h ds s = r) : (calloM h ds).bind f ρ s = calK f ρ r := by
  unfold M.bind calloM calK; subst e; cases h ds s <;> rfl
@[simp ↓] theorem bind_err {h : List D → So → FR} {ds : List D} {r : FR} {f : D → M β} (e : h ds s = r) : (errM h ds).bind f ρ s = errK f ρ r := by
  unfold M.bind errM errK; subst e
  cases h ds s with
  | ex c s1 => dsimp only; cases errN c <;> rfl
  | _ => rfl
@[simp ↓] theorem bind_noEx {α : Type} {m : M α} {r : Out α} {f : α → M β} (h : m ρ s = r) : (noEx m).bind f ρ s = noK f r := by
  unfold M.bind noEx noK; subst h; cases m ρ s <;> rfl
@[simp ↓] theorem bind_new {xs : List D} {f : D → M β} : (newM (.lst xs)).bind f ρ s = f (.ob s.length) ρ (s ++ [.lst xs]) := Eq.trans rfl rfl
@[simp ↓] theorem bind_cel {n : Nat} {xs : List D} {f : List D → M β} (h : s[n]? = some (.lst xs)) : (celM (.ob n)).bind f ρ s = f xs ρ s := by
  unfold M.bind celM; simp only [h]
def popK (f : D → M β) (ρ : Ro) (s : So) (n : Nat) : Cell → Out β
  | .lst (x :: xs) => f x ρ (s.set n (.lst xs))
  | _ => .bad
@[simp ↓, simp] theorem popK_ok {f : D → M β} {n : Nat} {x : D} {xs : List D} : popK f ρ s n (.lst (x :: xs)) = f x ρ (s.set n (.lst xs)) := Eq.trans rfl rfl
@[simp ↓] theorem bind_pop {n : Nat} {c : Cell} {f : D → M β} (h : s[n]? = some c) : (popM (.ob n)).bind f ρ s = popK f ρ s n c := by
  unfold M.bind popM popK; simp only [h]
  cases c with
  | lst l => cases l <;> rfl
  | ins _ _ => rfl
@[simp ↓] theorem bind_comp {own : List Nat} {st : D → M Unit} {c : M Bool} {x : M D} {items : List D} {r : Out (List D)} {f : D → M β} (h1 : noOw ρ own = true) (h0 : wipeR ρ own = ρ1) (h2 : cLoop own st c x items [] ρ1 s = r) : (compM own st c x items).bind f ρ s = cmpK f ρ own r := by
  subst h0
  subst h2
  unfold M.bind compM cmpK; rw [if_pos h1]
  cases cLoop own st c x items [] (wipeR ρ own) s <;> rfl
@[simp ↓] theorem bind_floop {st : D → M Unit} {b : M Fl} {items : List D} {r : Out Fl} {f : Fl → M β} (h : fLoop st b items ρ s = r) : (fLoop st b items).bind f ρ s = outK f r := by
  unfold M.bind outK; subst h; cases fLoop st b items ρ s <;> rfl
@[simp ↓] theorem bind_wloop {c : M Bool} {b : M Fl} {n : Nat} {r : Out Fl} {f : Fl → M β} (h : wLoop c b n ρ s = r) : (wLoop c b n).bind f ρ s = outK f r := by
  unfold M.bind outK; subst h; cases wLoop c b n ρ s <;> rfl
/-- behind a turn -/
def turnK (k : M Fl) (f : Fl → M β) : Fl → M β
  | .nx => k.bind f
  | .br => f .nx
  | .rt x => f (.rt x)
  | .ro x => f (.ro x)
@[simp ↓, simp] theorem turnK_nx {k : M Fl} {f : Fl → M β} : turnK k f .nx ρ s = k.bind f ρ s := Eq.trans rfl rfl
@[simp ↓, simp] theorem turnK_br {k : M Fl} {f : Fl → M β} : turnK k f .br ρ s = f .nx ρ s := Eq.trans rfl rfl
@[simp ↓, simp] theorem turnK_rt {k : M Fl} {f : Fl → M β} {x : D} : turnK k f (.rt x) ρ s = f (.rt x) ρ s := Eq.trans rfl rfl
@[simp ↓, simp] theorem turnK_ro {k : M Fl} {f : Fl → M β} {x : List D} : turnK k f (.ro x) ρ s = f (.ro x) ρ s := Eq.trans rfl rfl
@[simp ↓] theorem floop_nil {st : D → M Unit} {b : M Fl} : fLoop st b [] ρ s = .ok .nx ρ s := Eq.trans rfl rfl
theorem floop_cons {st : D → M Unit} {b : M Fl} {d : D} {ds : List D} : fLoop st b (d :: ds) ρ s = (st d).bind (fun _ => b.bind (turnK (fLoop st b ds) M.pure)) ρ s := by
  rw [fLoop]
  congr 2
  funext _
  congr 1
  funext f
  cases f <;> simp only [turnK, bind_pure] <;> rfl
theorem wloop_succ {c : M Bool} {b : M Fl} {n : Nat} : wLoop c b (n + 1) ρ s = c.bind (fun t => if t then b.bind (turnK (wLoop c b n) M.pure) else M.pure .nx) ρ s := by
  rw [wLoop]
  congr 2
  funext t
  cases t with
  | false => rfl
  | true =>
    rw [if_pos rfl, if_pos rfl]
    congr 1
    funext f
    cases f <;> simp only [turnK, bind_pure] <;> rfl
def finK (o : Out Fl) : FR := match o with
  | .ok (.rt x) _ s1 => .ok x s1
  | .ok (.ro x) _ s1 => .own x s1
  | .ok .nx _ s1 => .ok .non s1
  | .ok .br _ _ => .bad
  | .ex c _ s1 => .ex c s1
  | .bad => .bad
@[simp] theorem finK_rt {x : D} : finK (.ok (.rt x) ρ s) = .ok x s := Eq.trans rfl rfl
@[simp] theorem finK_ro {x : List D} : finK (.ok (.ro x) ρ s) = .own x s := Eq.trans rfl rfl
@[simp] theorem finK_nx : finK (.ok .nx ρ s) = .ok .non s := Eq.trans rfl rfl
@[simp] theorem finK_ex {c : Nat} : finK (.ex c ρ s) = .ex c s := Eq.trans rfl rfl
@[simp] theorem finK_ite {c : Prop} [Decidable c] {x y : Out Fl} : finK (if c then x else y) = if c then finK x else finK y := by split <;> rfl
end
section
variable {F : Nat → List D → So → FR} {gl : Nat → Option D} {β : Type} {ρ ρ1 : Ro} {s s1 : So}
theorem runD_ap {d : Df} {ds : List D} (h : ds.length = d.n) : runD F gl d ds s = finK (exs F gl d.body (ds.map .sh ++ List.replicate (d.k - d.n) .no) s) := by
  unfold runD finK
  rw [if_pos h] <;> (cases exs F gl d.body (ds.map .sh ++ List.replicate (d.k - d.n) .no) s <;> first | rfl | (rename_i a _ _; cases a <;> rfl))
def isNn (neg : Bool) (x : D) : Bool := match x with | .non => !neg | _ => neg
@[simp] theorem isNn_non (b : Bool) : isNn b .non = !b := Eq.trans rfl rfl
@[simp] theorem isNn_bl (b c : Bool) : isNn b (.bl c) = b := Eq.trans rfl rfl
@[simp] theorem isNn_int (b : Bool) (c : Int) : isNn b (.int c) = b := Eq.trans rfl rfl
@[simp] theorem isNn_str (b : Bool) (c : Str) : isNn b (.str c) = b := Eq.trans rfl rfl
@[simp] theorem isNn_tup (b : Bool) (c : List D) : isNn b (.tup c) = b := Eq.trans rfl rfl
@[simp] theorem isNn_lst (b : Bool) (c : List D) : isNn b (.lst c) = b := Eq.trans rfl rfl
theorem ev_vr (i : Nat) : ev F gl (.vr i) = (getSh i) := by rw [ev]
@[simp ↓] theorem ev_vrA (i : Nat) : ev F gl (.vr i) ρ s = (getSh i) ρ s := by rw [ev_vr]
@[simp ↓] theorem ev_vrB (i : Nat) {kf : D → M β} : (ev F gl (.vr i)).bind kf ρ s = (getSh i).bind kf ρ s := by rw [ev_vr]
theorem ev_fz (i : Nat) : ev F gl (.fz i) = (frzSl i) := by rw [ev]
@[simp ↓] theorem ev_fzA (i : Nat) : ev F gl (.fz i) ρ s = (frzSl i) ρ s := by rw [ev_fz]
@[simp ↓] theorem ev_fzB (i : Nat) {kf : D → M β} : (ev F gl (.fz i)).bind kf ρ s = (frzSl i).bind kf ρ s := by rw [ev_fz]
theorem ev_non  : ev F gl (.non) = (M.pure .non) := by rw [ev]
@[simp ↓] theorem ev_nonA  : ev F gl (.non) ρ s = (M.pure .non) ρ s := by rw [ev_non]
@[simp ↓] theorem ev_nonB  {kf : D → M β} : (ev F gl (.non)).bind kf ρ s = (M.pure .non).bind kf ρ s := by rw [ev_non]
theorem ev_bl (b : Bool) : ev F gl (.bl b) = (M.pure (.bl b)) := by rw [ev]
@[simp ↓] theorem ev_blA (b : Bool) : ev F gl (.bl b) ρ s = (M.pure (.bl b)) ρ s := by rw [ev_bl]
@[simp ↓] theorem ev_blB (b : Bool) {kf : D → M β} : (ev F gl (.bl b)).bind kf ρ s = (M.pure (.bl b)).bind kf ρ s := by rw [ev_bl]
theorem ev_int (i : Int) : ev F gl (.int i) = (M.pure (.int i)) := by rw [ev]
@[simp ↓] theorem ev_intA (i : Int) : ev F gl (.int i) ρ s = (M.pure (.int i)) ρ s := by rw [ev_int]
@[simp ↓] theorem ev_intB (i : Int) {kf : D → M β} : (ev F gl (.int i)).bind kf ρ s = (M.pure (.int i)).bind kf ρ s := by rw [ev_int]
theorem ev_str (x : Str) : ev F gl (.str x) = (M.pure (.str x)) := by rw [ev]
@[simp ↓] theorem ev_strA (x : Str) : ev F gl (.str x) ρ s = (M.pure (.str x)) ρ s := by rw [ev_str]
@[simp ↓] theorem ev_strB (x : Str) {kf : D → M β} : (ev F gl (.str x)).bind kf ρ s = (M.pure (.str x)).bind kf ρ s := by rw [ev_str]
theorem ev_gl (g : Nat) : ev F gl (.gl g) = (M.of (gl g)) := by rw [ev]
@[simp ↓] theorem ev_glA (g : Nat) : ev F gl (.gl g) ρ s = (M.of (gl g)) ρ s := by rw [ev_gl]
@[simp ↓] theorem ev_glB (g : Nat) {kf : D → M β} : (ev F gl (.gl g)).bind kf ρ s = (M.of (gl g)).bind kf ρ s := by rw [ev_gl]
theorem ev_tup (es : Es) : ev F gl (.tup es) = ((evs F gl es).bind fun ds => if ds.length ≤ lim then M.pure (.tup ds) else fun _ _ => .bad) := by rw [ev]
@[simp ↓] theorem ev_tupA (es : Es) : ev F gl (.tup es) ρ s = ((evs F gl es).bind fun ds => if ds.length ≤ lim then M.pure (.tup ds) else fun _ _ => .bad) ρ s := by rw [ev_tup]
@[simp ↓] theorem ev_tupB (es : Es) {kf : D → M β} : (ev F gl (.tup es)).bind kf ρ s = ((evs F gl es).bind fun ds => if ds.length ≤ lim then M.pure (.tup ds) else fun _ _ => .bad).bind kf ρ s := by rw [ev_tup]
theorem ev_lst (es : Es) : ev F gl (.lst es) = ((evs F gl es).bind fun ds => if ds.length ≤ lim then M.pure (.lst ds) else fun _ _ => .bad) := by rw [ev]
@[simp ↓] theorem ev_lstA (es : Es) : ev F gl (.lst es) ρ s = ((evs F gl es).bind fun ds => if ds.length ≤ lim then M.pure (.lst ds) else fun _ _ => .bad) ρ s := by rw [ev_lst]
@[simp ↓] theorem ev_lstB (es : Es) {kf : D → M β} : (ev F gl (.lst es)).bind kf ρ s = ((evs F gl es).bind fun ds => if ds.length ≤ lim then M.pure (.lst ds) else fun _ _ => .bad).bind kf ρ s := by rw [ev_lst]
theorem ev_bin (o : BOp) (a b : E) : ev F gl (.bin o a b) = ((ev F gl a).bind fun x => (ev F gl b).bind fun y => M.of (binD o x y)) := by rw [ev]
@[simp ↓] theorem ev_binA (o : BOp) (a b : E) : ev F gl (.bin o a b) ρ s = ((ev F gl a).bind fun x => (ev F gl b).bind fun y => M.of (binD o x y)) ρ s := by rw [ev_bin]
@[simp ↓] theorem ev_binB (o : BOp) (a b : E) {kf : D → M β} : (ev F gl (.bin o a b)).bind kf ρ s = ((ev F gl a).bind fun x => (ev F gl b).bind fun y => M.of (binD o x y)).bind kf ρ s := by rw [ev_bin]
theorem ev_pow (i j : Int) : ev F gl (.pow i j) = (M.of (powD i j)) := by rw [ev]
@[simp ↓] theorem ev_powA (i j : Int) : ev F gl (.pow i j) ρ s = (M.of (powD i j)) ρ s := by rw [ev_pow]
@[simp ↓] theorem ev_powB (i j : Int) {kf : D → M β} : (ev F gl (.pow i j)).bind kf ρ s = (M.of (powD i j)).bind kf ρ s := by rw [ev_pow]
theorem ev_neg (a : E) : ev F gl (.neg a) = ((ev F gl a).bind fun x => M.of (negD x)) := by rw [ev]
@[simp ↓] theorem ev_negA (a : E) : ev F gl (.neg a) ρ s = ((ev F gl a).bind fun x => M.of (negD x)) ρ s := by rw [ev_neg]
@[simp ↓] theorem ev_negB (a : E) {kf : D → M β} : (ev F gl (.neg a)).bind kf ρ s = ((ev F gl a).bind fun x => M.of (negD x)).bind kf ρ s := by rw [ev_neg]
theorem ev_cmp (o : COp) (a b : E) : ev F gl (.cmp o a b) = ((ev F gl a).bind fun x => (ev F gl b).bind fun y => M.of ((cmpD o x y).map .bl)) := by rw [ev]
@[simp ↓] theorem ev_cmpA (o : COp) (a b : E) : ev F gl (.cmp o a b) ρ s = ((ev F gl a).bind fun x => (ev F gl b).bind fun y => M.of ((cmpD o x y).map .bl)) ρ s := by rw [ev_cmp]
@[simp ↓] theorem ev_cmpB (o : COp) (a b : E) {kf : D → M β} : (ev F gl (.cmp o a b)).bind kf ρ s = ((ev F gl a).bind fun x => (ev F gl b).bind fun y => M.of ((cmpD o x y).map .bl)).bind kf ρ s := by rw [ev_cmp]
theorem ev_chn (o1 o2 : COp) (a b c : E) : ev F gl (.chn o1 o2 a b c) = ((ev F gl a).bind fun x => (ev F gl b).bind fun y => (M.of (cmpD o1 x y)).bind fun t => if t then (ev F gl c).bind fun z => M.of ((cmpD o2 y z).map .bl) else M.pure (.bl false)) := by rw [ev]
@[simp ↓] theorem ev_chnA (o1 o2 : COp) (a b c : E) : ev F gl (.chn o1 o2 a b c) ρ s = ((ev F gl a).bind fun x => (ev F gl b).bind fun y => (M.of (cmpD o1 x y)).bind fun t => if t then (ev F gl c).bind fun z => M.of ((cmpD o2 y z).map .bl) else M.pure (.bl false)) ρ s := by rw [ev_chn]
@[simp ↓] theorem ev_chnB (o1 o2 : COp) (a b c : E) {kf : D → M β} : (ev F gl (.chn o1 o2 a b c)).bind kf ρ s = ((ev F gl a).bind fun x => (ev F gl b).bind fun y => (M.of (cmpD o1 x y)).bind fun t => if t then (ev F gl c).bind fun z => M.of ((cmpD o2 y z).map .bl) else M.pure (.bl false)).bind kf ρ s := by rw [ev_chn]
theorem ev_isn (neg : Bool) (a : E) : ev F gl (.isn neg a) = ((ev F gl a).bind fun x => M.pure (.bl (isNn neg x))) := by rw [ev]; rfl
@[simp ↓] theorem ev_isnA (neg : Bool) (a : E) : ev F gl (.isn neg a) ρ s = ((ev F gl a).bind fun x => M.pure (.bl (isNn neg x))) ρ s := by rw [ev_isn]
@[simp ↓] theorem ev_isnB (neg : Bool) (a : E) {kf : D → M β} : (ev F gl (.isn neg a)).bind kf ρ s = ((ev F gl a).bind fun x => M.pure (.bl (isNn neg x))).bind kf ρ s := by rw [ev_isn]
theorem ev_isb (neg : Bool) (a : E) (b : Bool) : ev F gl (.isb neg a b) = ((ev F gl a).bind fun x => (M.of (asB x)).bind fun c => M.pure (.bl (xor neg (decide (c = b))))) := by rw [ev]
@[simp ↓] theorem ev_isbA (neg : Bool) (a : E) (b : Bool) : ev F gl (.isb neg a b) ρ s = ((ev F gl a).bind fun x => (M.of (asB x)).bind fun c => M.pure (.bl (xor neg (decide (c = b))))) ρ s := by rw [ev_isb]
@[simp ↓] theorem ev_isbB (neg : Bool) (a : E) (b : Bool) {kf : D → M β} : (ev F gl (.isb neg a b)).bind kf ρ s = ((ev F gl a).bind fun x => (M.of (asB x)).bind fun c => M.pure (.bl (xor neg (decide (c = b))))).bind kf ρ s := by rw [ev_isb]
theorem ev_and (a b : E) : ev F gl (.and a b) = ((tst (ev F gl a)).bind fun t => if t then ev F gl b else M.pure (.bl false)) := by rw [ev]
@[simp ↓] theorem ev_andA (a b : E) : ev F gl (.and a b) ρ s = ((tst (ev F gl a)).bind fun t => if t then ev F gl b else M.pure (.bl false)) ρ s := by rw [ev_and]
@[simp ↓] theorem ev_andB (a b : E) {kf : D → M β} : (ev F gl (.and a b)).bind kf ρ s = ((tst (ev F gl a)).bind fun t => if t then ev F gl b else M.pure (.bl false)).bind kf ρ s := by rw [ev_and]
theorem ev_or (a b : E) : ev F gl (.or a b) = ((tst (ev F gl a)).bind fun t => if t then M.pure (.bl true) else ev F gl b) := by rw [ev]
@[simp ↓] theorem ev_orA (a b : E) : ev F gl (.or a b) ρ s = ((tst (ev F gl a)).bind fun t => if t then M.pure (.bl true) else ev F gl b) ρ s := by rw [ev_or]
@[simp ↓] theorem ev_orB (a b : E) {kf : D → M β} : (ev F gl (.or a b)).bind kf ρ s = ((tst (ev F gl a)).bind fun t => if t then M.pure (.bl true) else ev F gl b).bind kf ρ s := by rw [ev_or]
theorem ev_one (a : E) : ev F gl (.one a) = (ev F gl a) := by rw [ev]
@[simp ↓] theorem ev_oneA (a : E) : ev F gl (.one a) ρ s = (ev F gl a) ρ s := by rw [ev_one]
@[simp ↓] theorem ev_oneB (a : E) {kf : D → M β} : (ev F gl (.one a)).bind kf ρ s = (ev F gl a).bind kf ρ s := by rw [ev_one]
theorem ev_not (a : E) : ev F gl (.not a) = ((tst (ev F gl a)).bind fun t => M.pure (.bl (!t))) := by rw [ev]
@[simp ↓] theorem ev_notA (a : E) : ev F gl (.not a) ρ s = ((tst (ev F gl a)).bind fun t => M.pure (.bl (!t))) ρ s := by rw [ev_not]
@[simp ↓] theorem ev_notB (a : E) {kf : D → M β} : (ev F gl (.not a)).bind kf ρ s = ((tst (ev F gl a)).bind fun t => M.pure (.bl (!t))).bind kf ρ s := by rw [ev_not]
theorem ev_ife (c a b : E) : ev F gl (.ife c a b) = ((tst (ev F gl c)).bind fun t => if t then ev F gl a else ev F gl b) := by rw [ev]
@[simp ↓] theorem ev_ifeA (c a b : E) : ev F gl (.ife c a b) ρ s = ((tst (ev F gl c)).bind fun t => if t then ev F gl a else ev F gl b) ρ s := by rw [ev_ife]
@[simp ↓] theorem ev_ifeB (c a b : E) {kf : D → M β} : (ev F gl (.ife c a b)).bind kf ρ s = ((tst (ev F gl c)).bind fun t => if t then ev F gl a else ev F gl b).bind kf ρ s := by rw [ev_ife]
theorem ev_ix (a i : E) : ev F gl (.ix a i) = ((ev F gl a).bind fun x => (ev F gl i).bind fun y => M.of (ixD x y)) := by rw [ev]
@[simp ↓] theorem ev_ixA (a i : E) : ev F gl (.ix a i) ρ s = ((ev F gl a).bind fun x => (ev F gl i).bind fun y => M.of (ixD x y)) ρ s := by rw [ev_ix]
@[simp ↓] theorem ev_ixB (a i : E) {kf : D → M β} : (ev F gl (.ix a i)).bind kf ρ s = ((ev F gl a).bind fun x => (ev F gl i).bind fun y => M.of (ixD x y)).bind kf ρ s := by rw [ev_ix]
theorem ev_ixo (n : Nat) (i : E) : ev F gl (.ixo n i) = ((getOw n).bind fun _ => (ev F gl i).bind fun y => (getOw n).bind fun xs => M.of (ixD (.lst xs) y)) := by rw [ev]
@[simp ↓] theorem ev_ixoA (n : Nat) (i : E) : ev F gl (.ixo n i) ρ s = ((getOw n).bind fun _ => (ev F gl i).bind fun y => (getOw n).bind fun xs => M.of (ixD (.lst xs) y)) ρ s := by rw [ev_ixo]
@[simp ↓] theorem ev_ixoB (n : Nat) (i : E) {kf : D → M β} : (ev F gl (.ixo n i)).bind kf ρ s = ((getOw n).bind fun _ => (ev F gl i).bind fun y => (getOw n).bind fun xs => M.of (ixD (.lst xs) y)).bind kf ρ s := by rw [ev_ixo]
theorem ev_leno (n : Nat) : ev F gl (.leno n) = ((getOw n).bind fun xs => M.pure (.int xs.length)) := by rw [ev]
@[simp ↓] theorem ev_lenoA (n : Nat) : ev F gl (.leno n) ρ s = ((getOw n).bind fun xs => M.pure (.int xs.length)) ρ s := by rw [ev_leno]
@[simp ↓] theorem ev_lenoB (n : Nat) {kf : D → M β} : (ev F gl (.leno n)).bind kf ρ s = ((getOw n).bind fun xs => M.pure (.int xs.length)).bind kf ρ s := by rw [ev_leno]
theorem ev_emo (neg : Bool) (n : Nat) : ev F gl (.emo neg n) = ((getOw n).bind fun xs => M.of ((eqD (.lst xs) (.lst [])).map fun b => .bl (xor neg b))) := by rw [ev]
@[simp ↓] theorem ev_emoA (neg : Bool) (n : Nat) : ev F gl (.emo neg n) ρ s = ((getOw n).bind fun xs => M.of ((eqD (.lst xs) (.lst [])).map fun b => .bl (xor neg b))) ρ s := by rw [ev_emo]
@[simp ↓] theorem ev_emoB (neg : Bool) (n : Nat) {kf : D → M β} : (ev F gl (.emo neg n)).bind kf ρ s = ((getOw n).bind fun xs => M.of ((eqD (.lst xs) (.lst [])).map fun b => .bl (xor neg b))).bind kf ρ s := by rw [ev_emo]
theorem ev_tupo (n : Nat) : ev F gl (.tupo n) = ((getOw n).bind fun xs => M.pure (.tup xs)) := by rw [ev]
@[simp ↓] theorem ev_tupoA (n : Nat) : ev F gl (.tupo n) ρ s = ((getOw n).bind fun xs => M.pure (.tup xs)) ρ s := by rw [ev_tupo]
@[simp ↓] theorem ev_tupoB (n : Nat) {kf : D → M β} : (ev F gl (.tupo n)).bind kf ρ s = ((getOw n).bind fun xs => M.pure (.tup xs)).bind kf ρ s := by rw [ev_tupo]
theorem ev_sl (a : E) (lo hi : EO) : ev F gl (.sl a lo hi) = ((ev F gl a).bind fun x => (evo F gl lo).bind fun l => (evo F gl hi).bind fun h => M.of (slD x l h)) := by rw [ev]
@[simp ↓] theorem ev_slA (a : E) (lo hi : EO) : ev F gl (.sl a lo hi) ρ s = ((ev F gl a).bind fun x => (evo F gl lo).bind fun l => (evo F gl hi).bind fun h => M.of (slD x l h)) ρ s := by rw [ev_sl]
@[simp ↓] theorem ev_slB (a : E) (lo hi : EO) {kf : D → M β} : (ev F gl (.sl a lo hi)).bind kf ρ s = ((ev F gl a).bind fun x => (evo F gl lo).bind fun l => (evo F gl hi).bind fun h => M.of (slD x l h)).bind kf ρ s := by rw [ev_sl]
theorem ev_rv (a : E) : ev F gl (.rv a) = ((ev F gl a).bind fun x => M.of (rvD x)) := by rw [ev]
@[simp ↓] theorem ev_rvA (a : E) : ev F gl (.rv a) ρ s = ((ev F gl a).bind fun x => M.of (rvD x)) ρ s := by rw [ev_rv]
@[simp ↓] theorem ev_rvB (a : E) {kf : D → M β} : (ev F gl (.rv a)).bind kf ρ s = ((ev F gl a).bind fun x => M.of (rvD x)).bind kf ρ s := by rw [ev_rv]
theorem ev_call (f : Nat) (es : Es) : ev F gl (.call f es) = ((evs F gl es).bind fun ds => callM (F f) ds) := by rw [ev]
@[simp ↓] theorem ev_callA (f : Nat) (es : Es) : ev F gl (.call f es) ρ s = ((evs F gl es).bind fun ds => callM (F f) ds) ρ s := by rw [ev_call]
@[simp ↓] theorem ev_callB (f : Nat) (es : Es) {kf : D → M β} : (ev F gl (.call f es)).bind kf ρ s = ((evs F gl es).bind fun ds => callM (F f) ds).bind kf ρ s := by rw [ev_call]
theorem ev_blt (b : Blt) (es : Es) : ev F gl (.blt b es) = ((evs F gl es).bind fun ds => M.of (bltD b ds)) := by rw [ev]
@[simp ↓] theorem ev_bltA (b : Blt) (es : Es) : ev F gl (.blt b es) ρ s = ((evs F gl es).bind fun ds => M.of (bltD b ds)) ρ s := by rw [ev_blt]
@[simp ↓] theorem ev_bltB (b : Blt) (es : Es) {kf : D → M β} : (ev F gl (.blt b es)).bind kf ρ s = ((evs F gl es).bind fun ds => M.of (bltD b ds)).bind kf ρ s := by rw [ev_blt]
theorem ev_sst (e : E) : ev F gl (.sst e) = ((noEx (ev F gl e)).bind fun x => M.of (sstD x)) := by rw [ev]
@[simp ↓] theorem ev_sstA (e : E) : ev F gl (.sst e) ρ s = ((noEx (ev F gl e)).bind fun x => M.of (sstD x)) ρ s := by rw [ev_sst]
@[simp ↓] theorem ev_sstB (e : E) {kf : D → M β} : (ev F gl (.sst e)).bind kf ρ s = ((noEx (ev F gl e)).bind fun x => M.of (sstD x)).bind kf ρ s := by rw [ev_sst]
theorem ev_sln (e : E) : ev F gl (.sln e) = ((noEx (ev F gl e)).bind fun x => M.of (slnD x)) := by rw [ev]
@[simp ↓] theorem ev_slnA (e : E) : ev F gl (.sln e) ρ s = ((noEx (ev F gl e)).bind fun x => M.of (slnD x)) ρ s := by rw [ev_sln]
@[simp ↓] theorem ev_slnB (e : E) {kf : D → M β} : (ev F gl (.sln e)).bind kf ρ s = ((noEx (ev F gl e)).bind fun x => M.of (slnD x)).bind kf ρ s := by rw [ev_sln]
theorem ev_isi (a : E) (t : Ty) : ev F gl (.isi a t) = ((ev F gl a).bind fun x => M.of ((isiD x t).map .bl)) := by rw [ev]
@[simp ↓] theorem ev_isiA (a : E) (t : Ty) : ev F gl (.isi a t) ρ s = ((ev F gl a).bind fun x => M.of ((isiD x t).map .bl)) ρ s := by rw [ev_isi]
@[simp ↓] theorem ev_isiB (a : E) (t : Ty) {kf : D → M β} : (ev F gl (.isi a t)).bind kf ρ s = ((ev F gl a).bind fun x => M.of ((isiD x t).map .bl)).bind kf ρ s := by rw [ev_isi]
theorem ev_comp (own : List Nat) (elt : E) (tg : Tg) (it : It) (cond : EO) : ev F gl (.comp own elt tg it cond) = ((evi F gl it).bind fun items => compM own (asg tg) (evc F gl cond) (ev F gl elt) items) := by rw [ev]
@[simp ↓] theorem ev_compA (own : List Nat) (elt : E) (tg : Tg) (it : It) (cond : EO) : ev F gl (.comp own elt tg it cond) ρ s = ((evi F gl it).bind fun items => compM own (asg tg) (evc F gl cond) (ev F gl elt) items) ρ s := by rw [ev_comp]
@[simp ↓] theorem ev_compB (own : List Nat) (elt : E) (tg : Tg) (it : It) (cond : EO) {kf : D → M β} : (ev F gl (.comp own elt tg it cond)).bind kf ρ s = ((evi F gl it).bind fun items => compM own (asg tg) (evc F gl cond) (ev F gl elt) items).bind kf ρ s := by rw [ev_comp]
theorem ev_popc (n : Nat) : ev F gl (.popc n) = ((getSh n).bind fun d => popM d) := by rw [ev]
@[simp ↓] theorem ev_popcA (n : Nat) : ev F gl (.popc n) ρ s = ((getSh n).bind fun d => popM d) ρ s := by rw [ev_popc]
@[simp ↓] theorem ev_popcB (n : Nat) {kf : D → M β} : (ev F gl (.popc n)).bind kf ρ s = ((getSh n).bind fun d => popM d).bind kf ρ s := by rw [ev_popc]
theorem ev_callo (f : Nat) (es : Es) : ev F gl (.callo f es) = ((evs F gl es).bind fun ds => calloM (F f) ds) := by rw [ev]
@[simp ↓] theorem ev_calloA (f : Nat) (es : Es) : ev F gl (.callo f es) ρ s = ((evs F gl es).bind fun ds => calloM (F f) ds) ρ s := by rw [ev_callo]
@[simp ↓] theorem ev_calloB (f : Nat) (es : Es) {kf : D → M β} : (ev F gl (.callo f es)).bind kf ρ s = ((evs F gl es).bind fun ds => calloM (F f) ds).bind kf ρ s := by rw [ev_callo]
theorem ev_newc (e : E) : ev F gl (.newc e) = ((ev F gl e).bind newM) := by rw [ev]
@[simp ↓] theorem ev_newcA (e : E) : ev F gl (.newc e) ρ s = ((ev F gl e).bind newM) ρ s := by rw [ev_newc]
@[simp ↓] theorem ev_newcB (e : E) {kf : D → M β} : (ev F gl (.newc e)).bind kf ρ s = ((ev F gl e).bind newM).bind kf ρ s := by rw [ev_newc]
theorem ev_inr (neg : Bool) (a : E) (lo hi : Int) : ev F gl (.inr neg a lo hi) = ((ev F gl a).bind fun x => (M.of (asI x)).bind fun i => M.pure (.bl (xor neg (decide (lo ≤ i) && decide (i < hi))))) := by rw [ev]
@[simp ↓] theorem ev_inrA (neg : Bool) (a : E) (lo hi : Int) : ev F gl (.inr neg a lo hi) ρ s = ((ev F gl a).bind fun x => (M.of (asI x)).bind fun i => M.pure (.bl (xor neg (decide (lo ≤ i) && decide (i < hi))))) ρ s := by rw [ev_inr]
@[simp ↓] theorem ev_inrB (neg : Bool) (a : E) (lo hi : Int) {kf : D → M β} : (ev F gl (.inr neg a lo hi)).bind kf ρ s = ((ev F gl a).bind fun x => (M.of (asI x)).bind fun i => M.pure (.bl (xor neg (decide (lo ≤ i) && decide (i < hi))))).bind kf ρ s := by rw [ev_inr]
theorem ev_err (f : Nat) (es : Es) : ev F gl (.err f es) = ((noEx (evs F gl es)).bind fun ds => errM (F f) ds) := by rw [ev]
@[simp ↓] theorem ev_errA (f : Nat) (es : Es) : ev F gl (.err f es) ρ s = ((noEx (evs F gl es)).bind fun ds => errM (F f) ds) ρ s := by rw [ev_err]
@[simp ↓] theorem ev_errB (f : Nat) (es : Es) {kf : D → M β} : (ev F gl (.err f es)).bind kf ρ s = ((noEx (evs F gl es)).bind fun ds => errM (F f) ds).bind kf ρ s := by rw [ev_err]
theorem ev_idx (a b : E) : ev F gl (.idx a b) = ((ev F gl a).bind fun x => (M.of (asLst x)).bind fun xs => (ev F gl b).bind fun y => M.of (idxD (.lst xs) y)) := by rw [ev]
@[simp ↓] theorem ev_idxA (a b : E) : ev F gl (.idx a b) ρ s = ((ev F gl a).bind fun x => (M.of (asLst x)).bind fun xs => (ev F gl b).bind fun y => M.of (idxD (.lst xs) y)) ρ s := by rw [ev_idx]
@[simp ↓] theorem ev_idxB (a b : E) {kf : D → M β} : (ev F gl (.idx a b)).bind kf ρ s = ((ev F gl a).bind fun x => (M.of (asLst x)).bind fun xs => (ev F gl b).bind fun y => M.of (idxD (.lst xs) y)).bind kf ρ s := by rw [ev_idx]
theorem ev_emc (neg : Bool) (n : Nat) : ev F gl (.emc neg n) = ((getSh n).bind fun d => (celM d).bind fun xs => M.of ((eqD (.lst xs) (.lst [])).map fun b => .bl (xor neg b))) := by rw [ev]
@[simp ↓] theorem ev_emcA (neg : Bool) (n : Nat) : ev F gl (.emc neg n) ρ s = ((getSh n).bind fun d => (celM d).bind fun xs => M.of ((eqD (.lst xs) (.lst [])).map fun b => .bl (xor neg b))) ρ s := by rw [ev_emc]
@[simp ↓] theorem ev_emcB (neg : Bool) (n : Nat) {kf : D → M β} : (ev F gl (.emc neg n)).bind kf ρ s = ((getSh n).bind fun d => (celM d).bind fun xs => M.of ((eqD (.lst xs) (.lst [])).map fun b => .bl (xor neg b))).bind kf ρ s := by rw [ev_emc]
theorem ev_app (n : Nat) (a : E) : ev F gl (.app n a) = ((getOw n).bind fun _ => (ev F gl a).bind fun x => (getOw n).bind fun xs => if xs.length < lim then (putSl n (.ow (xs ++ [x]))).bind fun _ => M.pure .non else fun _ _ => .bad) := by rw [ev]
@[simp ↓] theorem ev_appA (n : Nat) (a : E) : ev F gl (.app n a) ρ s = ((getOw n).bind fun _ => (ev F gl a).bind fun x => (getOw n).bind fun xs => if xs.length < lim then (putSl n (.ow (xs ++ [x]))).bind fun _ => M.pure .non else fun _ _ => .bad) ρ s := by rw [ev_app]
@[simp ↓] theorem ev_appB (n : Nat) (a : E) {kf : D → M β} : (ev F gl (.app n a)).bind kf ρ s = ((getOw n).bind fun _ => (ev F gl a).bind fun x => (getOw n).bind fun xs => if xs.length < lim then (putSl n (.ow (xs ++ [x]))).bind fun _ => M.pure .non else fun _ _ => .bad).bind kf ρ s := by rw [ev_app]
theorem evs_nil  : evs F gl (Es.nil) = (M.pure []) := by rw [evs]
@[simp ↓] theorem evs_nilA  : evs F gl (Es.nil) ρ s = (M.pure []) ρ s := by rw [evs_nil]
@[simp ↓] theorem evs_nilB  {kf : List D → M β} : (evs F gl (Es.nil)).bind kf ρ s = (M.pure []).bind kf ρ s := by rw [evs_nil]
theorem evs_cons (e : E) (es : Es) : evs F gl (Es.cons e es) = ((ev F gl e).bind fun x => (evs F gl es).bind fun xs => M.pure (x :: xs)) := by rw [evs]
@[simp ↓] theorem evs_consA (e : E) (es : Es) : evs F gl (Es.cons e es) ρ s = ((ev F gl e).bind fun x => (evs F gl es).bind fun xs => M.pure (x :: xs)) ρ s := by rw [evs_cons]
@[simp ↓] theorem evs_consB (e : E) (es : Es) {kf : List D → M β} : (evs F gl (Es.cons e es)).bind kf ρ s = ((ev F gl e).bind fun x => (evs F gl es).bind fun xs => M.pure (x :: xs)).bind kf ρ s := by rw [evs_cons]
theorem evo_non  : evo F gl (EO.non) = (M.pure none) := by rw [evo]
@[simp ↓] theorem evo_nonA  : evo F gl (EO.non) ρ s = (M.pure none) ρ s := by rw [evo_non]
@[simp ↓] theorem evo_nonB  {kf : Option Int → M β} : (evo F gl (EO.non)).bind kf ρ s = (M.pure none).bind kf ρ s := by rw [evo_non]
theorem evo_som (e : E) : evo F gl (EO.som e) = ((ev F gl e).bind fun x => (M.of (asI x)).bind fun i => M.pure (some i)) := by rw [evo]
@[simp ↓] theorem evo_somA (e : E) : evo F gl (EO.som e) ρ s = ((ev F gl e).bind fun x => (M.of (asI x)).bind fun i => M.pure (some i)) ρ s := by rw [evo_som]
@[simp ↓] theorem evo_somB (e : E) {kf : Option Int → M β} : (evo F gl (EO.som e)).bind kf ρ s = ((ev F gl e).bind fun x => (M.of (asI x)).bind fun i => M.pure (some i)).bind kf ρ s := by rw [evo_som]
theorem evc_non  : evc F gl (EO.non) = (M.pure true) := by rw [evc]
@[simp ↓] theorem evc_nonA  : evc F gl (EO.non) ρ s = (M.pure true) ρ s := by rw [evc_non]
@[simp ↓] theorem evc_nonB  {kf : Bool → M β} : (evc F gl (EO.non)).bind kf ρ s = (M.pure true).bind kf ρ s := by rw [evc_non]
theorem evc_som (e : E) : evc F gl (EO.som e) = (tst (ev F gl e)) := by rw [evc]
@[simp ↓] theorem evc_somA (e : E) : evc F gl (EO.som e) ρ s = (tst (ev F gl e)) ρ s := by rw [evc_som]
@[simp ↓] theorem evc_somB (e : E) {kf : Bool → M β} : (evc F gl (EO.som e)).bind kf ρ s = (tst (ev F gl e)).bind kf ρ s := by rw [evc_som]
theorem evi_seq (e : E) : evi F gl (It.seq e) = ((ev F gl e).bind fun x => M.of (asSeq x)) := by rw [evi]
@[simp ↓] theorem evi_seqA (e : E) : evi F gl (It.seq e) ρ s = ((ev F gl e).bind fun x => M.of (asSeq x)) ρ s := by rw [evi_seq]
@[simp ↓] theorem evi_seqB (e : E) {kf : List D → M β} : (evi F gl (It.seq e)).bind kf ρ s = ((ev F gl e).bind fun x => M.of (asSeq x)).bind kf ρ s := by rw [evi_seq]
theorem evi_rng (e : E) : evi F gl (It.rng e) = ((ev F gl e).bind fun x => M.of (rng1 x)) := by rw [evi]
@[simp ↓] theorem evi_rngA (e : E) : evi F gl (It.rng e) ρ s = ((ev F gl e).bind fun x => M.of (rng1 x)) ρ s := by rw [evi_rng]
@[simp ↓] theorem evi_rngB (e : E) {kf : List D → M β} : (evi F gl (It.rng e)).bind kf ρ s = ((ev F gl e).bind fun x => M.of (rng1 x)).bind kf ρ s := by rw [evi_rng]
theorem evi_rng2 (a b : E) : evi F gl (It.rng2 a b) = ((ev F gl a).bind fun x => (ev F gl b).bind fun y => M.of (rng2 x y)) := by rw [evi]
@[simp ↓] theorem evi_rng2A (a b : E) : evi F gl (It.rng2 a b) ρ s = ((ev F gl a).bind fun x => (ev F gl b).bind fun y => M.of (rng2 x y)) ρ s := by rw [evi_rng2]
@[simp ↓] theorem evi_rng2B (a b : E) {kf : List D → M β} : (evi F gl (It.rng2 a b)).bind kf ρ s = ((ev F gl a).bind fun x => (ev F gl b).bind fun y => M.of (rng2 x y)).bind kf ρ s := by rw [evi_rng2]
theorem evi_enm (e : E) : evi F gl (It.enm e) = ((ev F gl e).bind fun x => (M.of (asLst x)).bind fun xs => M.pure (enmD 0 xs)) := by rw [evi]
@[simp ↓] theorem evi_enmA (e : E) : evi F gl (It.enm e) ρ s = ((ev F gl e).bind fun x => (M.of (asLst x)).bind fun xs => M.pure (enmD 0 xs)) ρ s := by rw [evi_enm]
@[simp ↓] theorem evi_enmB (e : E) {kf : List D → M β} : (evi F gl (It.enm e)).bind kf ρ s = ((ev F gl e).bind fun x => (M.of (asLst x)).bind fun xs => M.pure (enmD 0 xs)).bind kf ρ s := by rw [evi_enm]
theorem evi_zip (a b : E) : evi F gl (It.zip a b) = ((ev F gl a).bind fun x => (ev F gl b).bind fun y => (M.of (zipS x y)).bind fun l => M.pure l) := by rw [evi]
@[simp ↓] theorem evi_zipA (a b : E) : evi F gl (It.zip a b) ρ s = ((ev F gl a).bind fun x => (ev F gl b).bind fun y => (M.of (zipS x y)).bind fun l => M.pure l) ρ s := by rw [evi_zip]
@[simp ↓] theorem evi_zipB (a b : E) {kf : List D → M β} : (evi F gl (It.zip a b)).bind kf ρ s = ((ev F gl a).bind fun x => (ev F gl b).bind fun y => (M.of (zipS x y)).bind fun l => M.pure l).bind kf ρ s := by rw [evi_zip]
@[simp ↓] theorem tst_ap {m : M D} : tst m ρ s = m.bind (fun d => M.of (asB d)) ρ s := Eq.trans rfl rfl
@[simp ↓] theorem tst_bnd {m : M D} {f : Bool → M β} : (tst m).bind f ρ s = m.bind (fun d => (M.of (asB d)).bind f) ρ s := by rw [tst, bind_asc]
/-- behind a statement -/
def seqK (F : Nat → List D → So → FR) (gl : Nat → Option D) (ss : Ss) (f : Fl → M β) : Fl → M β
  | .nx => (exs F gl ss).bind f
  | .br => f .br
  | .rt x => f (.rt x)
  | .ro x => f (.ro x)
@[simp ↓, simp] theorem seqK_nx {ss : Ss} {f : Fl → M β} : seqK F gl ss f .nx ρ s = (exs F gl ss).bind f ρ s := Eq.trans rfl rfl
@[simp ↓, simp] theorem seqK_br {ss : Ss} {f : Fl → M β} : seqK F gl ss f .br ρ s = f .br ρ s := Eq.trans rfl rfl
@[simp ↓, simp] theorem seqK_rt {ss : Ss} {f : Fl → M β} {x : D} : seqK F gl ss f (.rt x) ρ s = f (.rt x) ρ s := Eq.trans rfl rfl
@[simp ↓, simp] theorem seqK_ro {ss : Ss} {f : Fl → M β} {x : List D} : seqK F gl ss f (.ro x) ρ s = f (.ro x) ρ s := Eq.trans rfl rfl
@[simp ↓] theorem exs_nil : exs F gl Ss.nil ρ s = .ok .nx ρ s := by rw [exs]; rfl
@[simp ↓] theorem exs_nilB {f : Fl → M β} : (exs F gl Ss.nil).bind f ρ s = f .nx ρ s := by rw [exs]; rfl
theorem exs_consB (a : S) (ss : Ss) {f : Fl → M β} : (exs F gl (Ss.cons a ss)).bind f = (ex F gl a).bind (seqK F gl ss f) := by
  rw [exs, bind_asc]
  congr 1
  funext r
  cases r <;> rfl
@[simp ↓] theorem exs_consC (a : S) (ss : Ss) {f : Fl → M β} : (exs F gl (Ss.cons a ss)).bind f ρ s = (ex F gl a).bind (seqK F gl ss f) ρ s := by rw [exs_consB]
@[simp ↓] theorem exs_cons (a : S) (ss : Ss) : exs F gl (Ss.cons a ss) ρ s = (ex F gl a).bind (seqK F gl ss M.pure) ρ s := by rw [← exs_consC, bind_pure]
def ownK (i : Nat) : D → M Fl
  | .lst xs => (putSl i (.ow xs)).bind fun _ => M.pure .nx
  | _ => fun _ _ => .bad
def rfK : D → M Fl
  | .lst xs => M.pure (.ro xs)
  | _ => fun _ _ => .bad
@[simp ↓, simp] theorem ownK_ok {i : Nat} {xs : List D} {f : Fl → M β} : (ownK i (.lst xs)).bind f ρ s = (putSl i (.ow xs)).bind (fun _ => f .nx) ρ s := by rw [ownK, bind_asc]; rfl
@[simp ↓, simp] theorem rfK_ok {xs : List D} {f : Fl → M β} : (rfK (.lst xs)).bind f ρ s = f (.ro xs) ρ s := Eq.trans rfl rfl
theorem ex_ex (e : E) : ex F gl (.ex e) = ((ev F gl e).bind fun _ => M.pure .nx) := by rw [ex]
@[simp ↓] theorem ex_exA (e : E) : ex F gl (.ex e) ρ s = ((ev F gl e).bind fun _ => M.pure .nx) ρ s := by rw [ex_ex]
@[simp ↓] theorem ex_exB (e : E) {kf : Fl → M β} : (ex F gl (.ex e)).bind kf ρ s = ((ev F gl e).bind fun _ => M.pure .nx).bind kf ρ s := by rw [ex_ex]
theorem ex_set (t : Tg) (e : E) : ex F gl (.set t e) = ((ev F gl e).bind fun x => (asg t x).bind fun _ => M.pure .nx) := by rw [ex]
@[simp ↓] theorem ex_setA (t : Tg) (e : E) : ex F gl (.set t e) ρ s = ((ev F gl e).bind fun x => (asg t x).bind fun _ => M.pure .nx) ρ s := by rw [ex_set]
@[simp ↓] theorem ex_setB (t : Tg) (e : E) {kf : Fl → M β} : (ex F gl (.set t e)).bind kf ρ s = ((ev F gl e).bind fun x => (asg t x).bind fun _ => M.pure .nx).bind kf ρ s := by rw [ex_set]
theorem ex_own (i : Nat) (e : E) : ex F gl (.own i e) = ((ev F gl e).bind (ownK i)) := by
  rw [ex]
  rfl
@[simp ↓] theorem ex_ownA (i : Nat) (e : E) : ex F gl (.own i e) ρ s = ((ev F gl e).bind (ownK i)) ρ s := by rw [ex_own]
@[simp ↓] theorem ex_ownB (i : Nat) (e : E) {kf : Fl → M β} : (ex F gl (.own i e)).bind kf ρ s = ((ev F gl e).bind (ownK i)).bind kf ρ s := by rw [ex_own]
theorem ex_par (i j : Nat) (oi oj : Bool) (a b : E) : ex F gl (.par i j oi oj a b) = ((pit oi (ev F gl a)).bind fun x => (pit oj (ev F gl b)).bind fun y => (putSl i x).bind fun _ => (putSl j y).bind fun _ => M.pure .nx) := by rw [ex]
@[simp ↓] theorem ex_parA (i j : Nat) (oi oj : Bool) (a b : E) : ex F gl (.par i j oi oj a b) ρ s = ((pit oi (ev F gl a)).bind fun x => (pit oj (ev F gl b)).bind fun y => (putSl i x).bind fun _ => (putSl j y).bind fun _ => M.pure .nx) ρ s := by rw [ex_par]
@[simp ↓] theorem ex_parB (i j : Nat) (oi oj : Bool) (a b : E) {kf : Fl → M β} : (ex F gl (.par i j oi oj a b)).bind kf ρ s = ((pit oi (ev F gl a)).bind fun x => (pit oj (ev F gl b)).bind fun y => (putSl i x).bind fun _ => (putSl j y).bind fun _ => M.pure .nx).bind kf ρ s := by rw [ex_par]
theorem ex_par3 (i j l : Nat) (oi : Bool) (a b c : E) : ex F gl (.par3 i j l oi a b c) = ((pit oi (ev F gl a)).bind fun x => (pit false (ev F gl b)).bind fun y => (pit false (ev F gl c)).bind fun z => (putSl i x).bind fun _ => (putSl j y).bind fun _ => (putSl l z).bind fun _ => M.pure .nx) := by rw [ex]
@[simp ↓] theorem ex_par3A (i j l : Nat) (oi : Bool) (a b c : E) : ex F gl (.par3 i j l oi a b c) ρ s = ((pit oi (ev F gl a)).bind fun x => (pit false (ev F gl b)).bind fun y => (pit false (ev F gl c)).bind fun z => (putSl i x).bind fun _ => (putSl j y).bind fun _ => (putSl l z).bind fun _ => M.pure .nx) ρ s := by rw [ex_par3]
@[simp ↓] theorem ex_par3B (i j l : Nat) (oi : Bool) (a b c : E) {kf : Fl → M β} : (ex F gl (.par3 i j l oi a b c)).bind kf ρ s = ((pit oi (ev F gl a)).bind fun x => (pit false (ev F gl b)).bind fun y => (pit false (ev F gl c)).bind fun z => (putSl i x).bind fun _ => (putSl j y).bind fun _ => (putSl l z).bind fun _ => M.pure .nx).bind kf ρ s := by rw [ex_par3]
theorem ex_sti (i : Nat) (k e : E) : ex F gl (.sti i k e) = ((ev F gl e).bind fun x => (getOw i).bind fun _ => (ev F gl k).bind fun y => (getOw i).bind fun xs => (M.of (setIx xs y x)).bind fun l => (putSl i (.ow l)).bind fun _ => M.pure .nx) := by rw [ex]
@[simp ↓] theorem ex_stiA (i : Nat) (k e : E) : ex F gl (.sti i k e) ρ s = ((ev F gl e).bind fun x => (getOw i).bind fun _ => (ev F gl k).bind fun y => (getOw i).bind fun xs => (M.of (setIx xs y x)).bind fun l => (putSl i (.ow l)).bind fun _ => M.pure .nx) ρ s := by rw [ex_sti]
@[simp ↓] theorem ex_stiB (i : Nat) (k e : E) {kf : Fl → M β} : (ex F gl (.sti i k e)).bind kf ρ s = ((ev F gl e).bind fun x => (getOw i).bind fun _ => (ev F gl k).bind fun y => (getOw i).bind fun xs => (M.of (setIx xs y x)).bind fun l => (putSl i (.ow l)).bind fun _ => M.pure .nx).bind kf ρ s := by rw [ex_sti]
theorem ex_ret (e : E) : ex F gl (.ret e) = ((ev F gl e).bind fun x => M.pure (.rt x)) := by rw [ex]
@[simp ↓] theorem ex_retA (e : E) : ex F gl (.ret e) ρ s = ((ev F gl e).bind fun x => M.pure (.rt x)) ρ s := by rw [ex_ret]
@[simp ↓] theorem ex_retB (e : E) {kf : Fl → M β} : (ex F gl (.ret e)).bind kf ρ s = ((ev F gl e).bind fun x => M.pure (.rt x)).bind kf ρ s := by rw [ex_ret]
theorem ex_retf (e : E) : ex F gl (.retf e) = ((ev F gl e).bind rfK) := by
  rw [ex]
  rfl
@[simp ↓] theorem ex_retfA (e : E) : ex F gl (.retf e) ρ s = ((ev F gl e).bind rfK) ρ s := by rw [ex_retf]
@[simp ↓] theorem ex_retfB (e : E) {kf : Fl → M β} : (ex F gl (.retf e)).bind kf ρ s = ((ev F gl e).bind rfK).bind kf ρ s := by rw [ex_retf]
theorem ex_reto (i : Nat) : ex F gl (.reto i) = ((getOw i).bind fun xs => M.pure (.ro xs)) := by rw [ex]
@[simp ↓] theorem ex_retoA (i : Nat) : ex F gl (.reto i) ρ s = ((getOw i).bind fun xs => M.pure (.ro xs)) ρ s := by rw [ex_reto]
@[simp ↓] theorem ex_retoB (i : Nat) {kf : Fl → M β} : (ex F gl (.reto i)).bind kf ρ s = ((getOw i).bind fun xs => M.pure (.ro xs)).bind kf ρ s := by rw [ex_reto]
theorem ex_retn  : ex F gl (.retn) = (M.pure (.rt .non)) := by rw [ex]
@[simp ↓] theorem ex_retnA  : ex F gl (.retn) ρ s = (M.pure (.rt .non)) ρ s := by rw [ex_retn]
@[simp ↓] theorem ex_retnB  {kf : Fl → M β} : (ex F gl (.retn)).bind kf ρ s = (M.pure (.rt .non)).bind kf ρ s := by rw [ex_retn]
theorem ex_ite (c : E) (a b : Ss) : ex F gl (.ite c a b) = ((tst (ev F gl c)).bind fun t => if t then exs F gl a else exs F gl b) := by rw [ex]
@[simp ↓] theorem ex_iteA (c : E) (a b : Ss) : ex F gl (.ite c a b) ρ s = ((tst (ev F gl c)).bind fun t => if t then exs F gl a else exs F gl b) ρ s := by rw [ex_ite]
@[simp ↓] theorem ex_iteB (c : E) (a b : Ss) {kf : Fl → M β} : (ex F gl (.ite c a b)).bind kf ρ s = ((tst (ev F gl c)).bind fun t => if t then exs F gl a else exs F gl b).bind kf ρ s := by rw [ex_ite]
theorem ex_for (t : Tg) (it : It) (b : Ss) : ex F gl (.for_ t it b) = ((evi F gl it).bind fun items => fLoop (asg t) (exs F gl b) items) := by rw [ex]
@[simp ↓] theorem ex_forA (t : Tg) (it : It) (b : Ss) : ex F gl (.for_ t it b) ρ s = ((evi F gl it).bind fun items => fLoop (asg t) (exs F gl b) items) ρ s := by rw [ex_for]
@[simp ↓] theorem ex_forB (t : Tg) (it : It) (b : Ss) {kf : Fl → M β} : (ex F gl (.for_ t it b)).bind kf ρ s = ((evi F gl it).bind fun items => fLoop (asg t) (exs F gl b) items).bind kf ρ s := by rw [ex_for]
theorem ex_whl (c : E) (b : Ss) : ex F gl (.whl c b) = (wLoop (tst (ev F gl c)) (exs F gl b) 1000000) := by rw [ex]
@[simp ↓] theorem ex_whlA (c : E) (b : Ss) : ex F gl (.whl c b) ρ s = (wLoop (tst (ev F gl c)) (exs F gl b) 1000000) ρ s := by rw [ex_whl]
@[simp ↓] theorem ex_whlB (c : E) (b : Ss) {kf : Fl → M β} : (ex F gl (.whl c b)).bind kf ρ s = (wLoop (tst (ev F gl c)) (exs F gl b) 1000000).bind kf ρ s := by rw [ex_whl]
theorem ex_pass  : ex F gl (.pass) = (M.pure .nx) := by rw [ex]
@[simp ↓] theorem ex_passA  : ex F gl (.pass) ρ s = (M.pure .nx) ρ s := by rw [ex_pass]
@[simp ↓] theorem ex_passB  {kf : Fl → M β} : (ex F gl (.pass)).bind kf ρ s = (M.pure .nx).bind kf ρ s := by rw [ex_pass]
theorem ex_brk  : ex F gl (.brk) = (M.pure .br) := by rw [ex]
@[simp ↓] theorem ex_brkA  : ex F gl (.brk) ρ s = (M.pure .br) ρ s := by rw [ex_brk]
@[simp ↓] theorem ex_brkB  {kf : Fl → M β} : (ex F gl (.brk)).bind kf ρ s = (M.pure .br).bind kf ρ s := by rw [ex_brk]
@[simp ↓] theorem ex_raise (x : Nat) {f : Fl → M β} : (ex F gl (.raise x)).bind f ρ s = .ex x ρ s := by rw [ex]; rfl
@[simp ↓] theorem asg_nm (i : Nat) (d : D) : asg (.nm i) d ρ s = putSl i (.sh d) ρ s := by rw [asg]
@[simp ↓] theorem asg_nmB (i : Nat) (d : D) {f : Unit → M β} : (asg (.nm i) d).bind f ρ s = (putSl i (.sh d)).bind f ρ s := by rw [asg]
@[simp ↓] theorem asg_tp (ts : Tgs) (d : D) : asg (.tp ts) d ρ s = ((M.of (asSeq d)).bind fun ds => asgs ts ds) ρ s := by rw [asg]
@[simp ↓] theorem asg_tpB (ts : Tgs) (d : D) {f : Unit → M β} : (asg (.tp ts) d).bind f ρ s = ((M.of (asSeq d)).bind fun ds => (asgs ts ds).bind f) ρ s := by rw [asg, bind_asc]
@[simp ↓] theorem asgs_nil : asgs .nil [] ρ s = .ok () ρ s := by rw [asgs]; rfl
@[simp ↓] theorem asgs_nilB {f : Unit → M β} : (asgs .nil []).bind f ρ s = f () ρ s := by rw [asgs]; rfl
@[simp ↓] theorem asgs_cons (t : Tg) (ts : Tgs) (d : D) (ds : List D) : asgs (.cons t ts) (d :: ds) ρ s = ((asg t d).bind fun _ => asgs ts ds) ρ s := by rw [asgs]
@[simp ↓] theorem asgs_consB (t : Tg) (ts : Tgs) (d : D) (ds : List D) {f : Unit → M β} : (asgs (.cons t ts) (d :: ds)).bind f ρ s = ((asg t d).bind fun _ => (asgs ts ds).bind f) ρ s := by rw [asgs, bind_asc]
@[simp ↓] theorem pit_no (m : M D) {f : Sl → M β} : (pit false m).bind f ρ s = m.bind (fun d => f (.sh d)) ρ s := by rw [pit, bind_asc]; rfl
def pitK (f : Sl → M β) : D → M β
  | .lst xs => f (.ow xs)
  | _ => fun _ _ => .bad
@[simp ↓] theorem pit_ow (m : M D) {f : Sl → M β} : (pit true m).bind f ρ s = m.bind (pitK f) ρ s := by
  rw [pit, bind_asc]
  congr 2
  funext x
  cases x <;> rfl
@[simp ↓, simp] theorem pitK_ok {xs : List D} {f : Sl → M β} : pitK f (.lst xs) ρ s = f (.ow xs) ρ s := Eq.trans rfl rfl
@[simp] theorem asB_bl (b : Bool) : asB (.bl b) = some b := Eq.trans rfl rfl
@[simp] theorem asI_int (b : Int) : asI (.int b) = some b := Eq.trans rfl rfl
@[simp] theorem asSeq_t (b : List D) : asSeq (.tup b) = some b := Eq.trans rfl rfl
@[simp] theorem asSeq_l (b : List D) : asSeq (.lst b) = some b := Eq.trans rfl rfl
@[simp] theorem asLst_l (b : List D) : asLst (.lst b) = some b := Eq.trans rfl rfl
@[simp] theorem cmp_eq (a b : D) : cmpD .eq a b = eqD a b := by cases a <;> cases b <;> rfl
@[simp] theorem cmp_ne (a b : D) : cmpD .ne a b = (eqD a b).map fun x => !x := by cases a <;> cases b <;> rfl
@[simp] theorem cmp_lt (a b : Int) : cmpD .lt (.int a) (.int b) = some (decide (a < b)) := Eq.trans rfl rfl
@[simp] theorem cmp_le (a b : Int) : cmpD .le (.int a) (.int b) = some (decide (a ≤ b)) := Eq.trans rfl rfl
@[simp] theorem cmp_gt (a b : Int) : cmpD .gt (.int a) (.int b) = some (decide (b < a)) := Eq.trans rfl rfl
@[simp] theorem cmp_ge (a b : Int) : cmpD .ge (.int a) (.int b) = some (decide (b ≤ a)) := Eq.trans rfl rfl
@[simp] theorem isi_non (t : Ty) : isiD .non t = some false := Eq.trans rfl rfl
@[simp] theorem isi_bl (b : Bool) (t : Ty) : isiD (.bl b) t = some (decide (t = .bool) || decide (t = .int)) := Eq.trans rfl rfl
@[simp] theorem isi_int (b : Int) (t : Ty) : isiD (.int b) t = some (decide (t = .int)) := by cases t <;> rfl
@[simp] theorem isi_str (b : Str) (t : Ty) : isiD (.str b) t = some (decide (t = .str)) := by cases t <;> rfl
@[simp] theorem isi_tup (b : List D) (t : Ty) : isiD (.tup b) t = some (decide (t = .tuple)) := by cases t <;> rfl
@[simp] theorem isi_lst (b : List D) (t : Ty) : isiD (.lst b) t = some (decide (t = .list)) := by cases t <;> rfl
@[simp] theorem len_t (xs : List D) : bltD .len [.tup xs] = some (.int xs.length) := Eq.trans rfl rfl
@[simp] theorem len_l (xs : List D) : bltD .len [.lst xs] = some (.int xs.length) := Eq.trans rfl rfl
@[simp] theorem len_s (xs : List Int) : bltD .len [.scr xs] = some (.int xs.length) := Eq.trans rfl rfl
@[simp] theorem add_i (i j : Int) : binD .add (.int i) (.int j) = some (.int (i + j)) := Eq.trans rfl rfl
@[simp] theorem sub_i (i j : Int) : binD .sub (.int i) (.int j) = some (.int (i - j)) := Eq.trans rfl rfl
end
end Pv
end
section
set_option Elab.async false
set_option linter.all false
set_option maxRecDepth 100000
set_option maxHeartbeats 1000000
namespace Pv
open PySem
/-- a comprehension's turns, each of which leaves the slots (own ones wiped) and the state -/
theorem cLoop_pure {own : List Nat} {st : D → M Unit} {c : M Bool} {x : M D} {ρ : Ro} {s : So} {p : D → Bool} {g : D → D} : ∀ (items acc : List D), acc.length + items.length ≤ lim →
    (∀ d ∈ items, ∃ ρ1, st d ρ s = .ok () ρ1 s ∧ wipeR ρ1 own = ρ ∧ c ρ1 s = .ok (p d) ρ1 s ∧ (p d = true → x ρ1 s = .ok (g d) ρ1 s)) →
    cLoop own st c x items acc ρ s = .ok (acc ++ (items.filter p).map g) ρ s
  | [], acc, _, _ => by simp [cLoop, M.pure]
  | d :: ds, acc, hl, h => by
    obtain ⟨ρ1, h1, h2, h3, h4⟩ := h d (List.mem_cons_self ..)
    have hds := fun acc' hl' => cLoop_pure (own := own) (st := st) (c := c) (x := x) (ρ := ρ) (s := s) (p := p) (g := g) ds acc' hl' fun e he => h e (List.mem_cons_of_mem _ he)
    rw [List.length_cons] at hl
    unfold cLoop M.bind
    rw [h1]
    dsimp only 
    rw [h3]
    dsimp only 
    cases hp : p d with
    | false =>
      rw [if_neg (by decide), h2, hds acc (by omega)]
      simp [hp]
    | true =>
      rw [if_pos rfl, h4 hp]
      dsimp only 
      rw [if_pos (by omega)]
      rw [h2, hds _ (by rw [List.length_append, List.length_singleton]; omega)]
      simp [hp]
/-- .. with no condition -/
theorem cLoop_all {own : List Nat} {st : D → M Unit} {x : M D} {F : Nat → List D → So → FR} {gl : Nat → Option D} {ρ : Ro} {s : So} {g : D → D} (items : List D) (hl : items.length ≤ lim)
    (h : ∀ d ∈ items, ∃ ρ1, st d ρ s = .ok () ρ1 s ∧ wipeR ρ1 own = ρ ∧ x ρ1 s = .ok (g d) ρ1 s) :
    cLoop own st (evc F gl .non) x items [] ρ s = .ok (items.map g) ρ s := by
  have := cLoop_pure (own := own) (st := st) (c := evc F gl .non) (x := x) (ρ := ρ) (s := s) (p := fun _ => true) (g := g) items [] (by simpa using hl) (fun d hd => by
    obtain ⟨ρ1, h1, h2, h3⟩ := h d hd
    exact ⟨ρ1, h1, h2, by rw [evc_non]; rfl, fun _ => h3⟩)
  rw [this, List.filter_eq_self.mpr (by simp)]
  rfl
theorem eqD_int (a b : Int) : eqD (.int a) (.int b) = some (a == b) := by rfl
theorem eqD_str (a b : Str) (ha : PyData.strOk a = true) (hb : PyData.strOk b = true) : eqD (.str a) (.str b) = some (a == b) := by
  unfold eqD D.py
  have e : ∀ x : Str, PyData.strOk x = true → SeqAt.shaped (.str x) = true := fun x hx => by
    unfold SeqAt.shaped
    simp [PyData.canLay0, PyData.depth, hx]
  simp [e a ha, e b hb, PyData.eqv]
theorem blsOf_map {α : Type} (f : α → Bool) : ∀ l : List α, blsOf (l.map fun a => .bl (f a)) = some (l.map f)
  | [] => rfl
  | a :: l => by simp [blsOf, blsOf_map f l]
theorem intsOf_map {α : Type} (f : α → Int) : ∀ l : List α, intsOf (l.map fun a => .int (f a)) = some (l.map f)
  | [] => rfl
  | a :: l => by simp [intsOf, intsOf_map f l]
theorem ixD_nat {xs : List D} {i : Nat} {d : D} (h : xs[i]? = some d) : ixD (.tup xs) (.int (i : Nat)) = some d := by
  have hi : i < xs.length := (List.getElem?_eq_some_iff.mp h).1
  have e : L2.ixN xs.length (i : Nat) = some i := by
    unfold L2.ixN
    rw [if_pos (by omega), if_pos (by omega), Int.toNat_natCast]
  show L2.atI xs (i : Nat) = some d
  unfold L2.atI
  rw [e]
  exact h
theorem ixD_natL {xs : List D} {i : Nat} {d : D} (h : xs[i]? = some d) : ixD (.lst xs) (.int (i : Nat)) = some d := ixD_nat h
theorem ixD_last {xs : List D} {d : D} : ixD (.lst (xs ++ [d])) (.int (-1)) = some d := by
  show L2.atI (xs ++ [d]) (-1) = some d
  unfold L2.atI L2.ixN
  rw [List.length_append, List.length_singleton, if_neg (by omega), if_pos (by omega)]
  show (xs ++ [d])[((-1 : Int) + ((xs.length + 1 : Nat) : Int)).toNat]? = some d
  rw [show ((-1 : Int) + ((xs.length + 1 : Nat) : Int)).toNat = xs.length by omega, List.getElem?_append_right (by omega)]
  simp
/-- values: so wide, so deep -/
def pvF : D → Bool
  | .non | .bl _ | .int _ => true
  | .str x => PyData.strOk x
  | _ => false
def pv (w : Nat) : Nat → D → Bool
  | 0, v => pvF v
  | d + 1, .tup xs => decide (xs.length ≤ w) && xs.all (pv w d)
  | d + 1, .lst xs => decide (xs.length ≤ w) && xs.all (pv w d)
  | _ + 1, v => pvF v
theorem pvF_pv {w d : Nat} {v : D} (h : pvF v = true) : pv w d v = true := by
  cases d with
  | zero => exact h
  | succ d => cases v <;> first | exact h | cases h
theorem pv_s {w : Nat} : ∀ {d : Nat} {v : D}, pv w d v = true → pv w (d + 1) v = true
  | 0, v, h => pvF_pv h
  | d + 1, .tup xs, h => by
    simp only [pv, Bool.and_eq_true, List.all_eq_true] at h ⊢
    exact ⟨h.1, fun x hx => pv_s (h.2 x hx)⟩
  | d + 1, .lst xs, h => by
    simp only [pv, Bool.and_eq_true, List.all_eq_true] at h ⊢
    exact ⟨h.1, fun x hx => pv_s (h.2 x hx)⟩
  | d + 1, .non, h => rfl
  | d + 1, .bl _, h => rfl
  | d + 1, .int _, h => rfl
  | d + 1, .str _, h => h
  | d + 1, .ob _, h => by cases h
  | d + 1, .scr _, h => by cases h
theorem pv_le {w : Nat} {v : D} {d e : Nat} (h : pv w d v = true) (l : d ≤ e) : pv w e v = true := by
  induction l with
  | refl => exact h
  | step _ ih => exact pv_s ih
theorem pv_w {w w' : Nat} (l : w ≤ w') : ∀ {d : Nat} {v : D}, pv w d v = true → pv w' d v = true
  | 0, v, h => h
  | d + 1, .tup xs, h => by
    simp only [pv, Bool.and_eq_true, List.all_eq_true, decide_eq_true_eq] at h ⊢
    exact ⟨by omega, fun x hx => pv_w l (h.2 x hx)⟩
  | d + 1, .lst xs, h => by
    simp only [pv, Bool.and_eq_true, List.all_eq_true, decide_eq_true_eq] at h ⊢
    exact ⟨by omega, fun x hx => pv_w l (h.2 x hx)⟩
  | d + 1, .non, h => rfl
  | d + 1, .bl _, h => rfl
  | d + 1, .int _, h => rfl
  | d + 1, .str _, h => h
  | d + 1, .ob _, h => by cases h
  | d + 1, .scr _, h => by cases h
theorem pyL_of {d : Nat} : ∀ (xs : List D), (∀ v ∈ xs, ∃ x, v.py = some x ∧ x.canLay0 = true ∧ x.depth ≤ d) → ∃ ys, D.pyL xs = some ys ∧ PyData.canLayAll0 ys = true ∧ PyData.depthAll ys ≤ d ∧ ys.length = xs.length
  | [], _ => ⟨[], by simp [D.pyL, PyData.canLayAll0, PyData.depthAll]⟩
  | v :: vs, h => by
    obtain ⟨x, h1, h2, h3⟩ := h v (List.mem_cons_self ..)
    obtain ⟨ys, k1, k2, k3, k4⟩ := pyL_of vs fun u hu => h u (List.mem_cons_of_mem _ hu)
    refine ⟨x :: ys, ?_, ?_, ?_, ?_⟩
    · simp [D.pyL, h1, k1]
    · simp [PyData.canLayAll0, h2, k2]
    · simp only [PyData.depthAll]; omega
    · simp [k4]
theorem pvF_py {v : D} (h : pvF v = true) : ∃ x, v.py = some x ∧ x.canLay0 = true ∧ x.depth = 0 := by
  cases v with
  | non => exact ⟨.none, by simp [D.py, PyData.canLay0, PyData.depth]⟩
  | bl b => exact ⟨.bool b, by simp [D.py, PyData.canLay0, PyData.depth]⟩
  | int i => exact ⟨.int i, by simp [D.py, PyData.canLay0, PyData.depth]⟩
  | str x => exact ⟨.str x, by simp [D.py, PyData.canLay0, PyData.depth]; exact h⟩
  | _ => cases h
theorem pv_py {w : Nat} : ∀ {d : Nat} {v : D}, pv w d v = true → ∃ x, v.py = some x ∧ x.canLay0 = true ∧ x.depth ≤ d
  | 0, v, h => by obtain ⟨x, h1, h2, h3⟩ := pvF_py h; exact ⟨x, h1, h2, by omega⟩
  | d + 1, .tup xs, h => by
    simp only [pv, Bool.and_eq_true, List.all_eq_true] at h
    obtain ⟨ys, k1, k2, k3, _⟩ := pyL_of xs fun v hv => pv_py (h.2 v hv)
    exact ⟨.tuple ys, by simp [D.py, k1], by simp [PyData.canLay0, k2], by simp only [PyData.depth]; omega⟩
  | d + 1, .lst xs, h => by
    simp only [pv, Bool.and_eq_true, List.all_eq_true] at h
    obtain ⟨ys, k1, k2, k3, _⟩ := pyL_of xs fun v hv => pv_py (h.2 v hv)
    exact ⟨.list ys, by simp [D.py, k1], by simp [PyData.canLay0, k2], by simp only [PyData.depth]; omega⟩
  | d + 1, .non, h => by obtain ⟨x, h1, h2, h3⟩ := pvF_py (v := .non) rfl; exact ⟨x, h1, h2, by omega⟩
  | d + 1, .bl b, h => by obtain ⟨x, h1, h2, h3⟩ := pvF_py (v := .bl b) rfl; exact ⟨x, h1, h2, by omega⟩
  | d + 1, .int b, h => by obtain ⟨x, h1, h2, h3⟩ := pvF_py (v := .int b) rfl; exact ⟨x, h1, h2, by omega⟩
  | d + 1, .str b, h => by obtain ⟨x, h1, h2, h3⟩ := pvF_py (v := .str b) h; exact ⟨x, h1, h2, by omega⟩
  | d + 1, .ob _, h => by cases h
  | d + 1, .scr _, h => by cases h
theorem shaped_of {x : PyData} (h1 : x.canLay0 = true) (h2 : x.depth ≤ 64) : SeqAt.shaped x = true := by
  unfold SeqAt.shaped
  simp [h1, h2]
theorem eqD_pv {w d : Nat} {a b : D} (ha : pv w d a = true) (hb : pv w d b = true) (hd : d ≤ 64) : ∃ x y, a.py = some x ∧ b.py = some y ∧ eqD a b = some (PyData.eqv x y) := by
  obtain ⟨x, h1, h2, h3⟩ := pv_py ha
  obtain ⟨y, k1, k2, k3⟩ := pv_py hb
  refine ⟨x, y, h1, k1, ?_⟩
  unfold eqD
  simp only [h1, k1, shaped_of h2 (by omega), shaped_of k2 (by omega), Bool.and_self, if_pos]
theorem eqD_tup_nil {w d : Nat} {xs : List D} (h : pv w d (.tup xs) = true) (hd : d ≤ 64) : eqD (.tup xs) (.tup []) = some xs.isEmpty := by
  cases d with
  | zero => cases h
  | succ d =>
    obtain ⟨x, y, h1, h2, h3⟩ := eqD_pv h (b := .tup []) (by simp [pv]) hd
    rw [h3]
    simp only [D.py, D.pyL, Option.map_some, Option.some.injEq, Option.map_eq_some_iff] at h1 h2
    obtain ⟨ys, k1, rfl⟩ := h1
    subst h2
    cases xs with
    | nil => simp [D.pyL] at k1; subst k1; simp [PyData.eqv, PyData.eqvAll]
    | cons v vs =>
      simp only [D.pyL, Option.bind_eq_some_iff, Option.map_eq_some_iff] at k1
      obtain ⟨a, _, b, _, rfl⟩ := k1
      simp [PyData.eqv, PyData.eqvAll]
theorem eqD_lst_nil {w d : Nat} {xs : List D} (h : pv w d (.lst xs) = true) (hd : d ≤ 64) : eqD (.lst xs) (.lst []) = some xs.isEmpty := by
  cases d with
  | zero => cases h
  | succ d =>
    obtain ⟨x, y, h1, h2, h3⟩ := eqD_pv h (b := .lst []) (by simp [pv]) hd
    rw [h3]
    simp only [D.py, D.pyL, Option.map_some, Option.some.injEq, Option.map_eq_some_iff] at h1 h2
    obtain ⟨ys, k1, rfl⟩ := h1
    subst h2
    cases xs with
    | nil => simp [D.pyL] at k1; subst k1; simp [PyData.eqv, PyData.eqvAll]
    | cons v vs =>
      simp only [D.pyL, Option.bind_eq_some_iff, Option.map_eq_some_iff] at k1
      obtain ⟨a, _, b, _, rfl⟩ := k1
      simp [PyData.eqv, PyData.eqvAll]
end Pv
end
section
set_option Elab.async false
set_option linter.all false
set_option maxRecDepth 100000
set_option maxHeartbeats 1000000
namespace Lw
open Pv PySem
mutual
/-- plain values of any size -/
def pw : D → Bool
  | .non | .bl _ | .int _ => true
  | .str x => PyData.strOk x
  | .tup xs | .lst xs => pws xs
  | .ob _ | .scr _ => false
def pws : List D → Bool
  | [] => true
  | x :: xs => pw x && pws xs
end
def isInt : D → Bool
  | .int _ => true
  | _ => false
theorem is_plain_ok (n : Nat) (v : D) (S : So) (h : pw v = true) : prg Ps gl (n + 1) i_is_plain [v] S = .ok (.bl (isInt v)) S := by
  rw [p_is_plain, runD_ap rfl]
  cases v <;> simp [d_is_plain, isInt, pw] at h ⊢
def whole (v : D) (a b : Int) : Bool := match v with
  | .int i => decide (a ≤ i) && decide (i ≤ b)
  | _ => false
theorem is_whole_ok (n : Nat) (v : D) (a b : Int) (S : So) (h : pw v = true) : prg Ps gl (n + 2) i_is_whole [v, .int a, .int b] S = .ok (.bl (whole v a b)) S := by
  have hp := is_plain_ok n v S h
  rw [p_is_whole, runD_ap rfl]
  cases v with
  | int i => by_cases h1 : a ≤ i <;> simp [d_is_whole, isInt, whole, hp, h1]
  | ob m => cases h
  | scr m => cases h
  | _ => simp [d_is_whole, isInt, whole, hp]
abbrev sTo : Str := Str.ofString "to"
abbrev sWait : Str := Str.ofString "wait"
def leg (v : D) : Bool := match v with
  | .tup [.str w, x] => if w == sTo then whole x 0 20 else (w == sWait && whole x 1 6)
  | _ => false
theorem gl0 : gl 0 = some (.int 20) := rfl
theorem ok_to : PyData.strOk sTo = true := by decide +kernel
theorem ok_wait : PyData.strOk sWait = true := by decide +kernel
theorem wait_to : (sWait == sTo) = false := by decide +kernel
theorem to_wait : (sTo == sWait) = false := by decide +kernel
@[simp] theorem ixD_0 (a : D) (l : List D) : ixD (.tup (a :: l)) (.int 0) = some a := by
  have := ixD_nat (xs := a :: l) (i := 0) (d := a) rfl
  simpa using this
@[simp] theorem ixD_1 (a b : D) (l : List D) : ixD (.tup (a :: b :: l)) (.int 1) = some b := by
  have := ixD_nat (xs := a :: b :: l) (i := 1) (d := b) rfl
  simpa using this
@[simp] theorem eqD_intS (a b : Int) : eqD (.int a) (.int b) = some (a == b) := rfl
theorem is_leg_ok (n : Nat) (v : D) (S : So) (h : pw v = true) : prg Ps gl (n + 3) i_is_leg [v] S = .ok (.bl (leg v)) S := by
  rw [p_is_leg, runD_ap rfl]
  cases v with
  | tup xs =>
    match xs, h with
    | [], h => simp [d_is_leg, leg]
    | [a], h => simp [d_is_leg, leg]
    | a :: b :: c :: r, h =>
      have e : ((r.length : Int) + 1 + 1 + 1 == 2) = false := by rw [beq_eq_false_iff_ne]; omega
      simp [d_is_leg, leg, e]
    | [a, b], h =>
      have hb : pw b = true := by simp [pw, pws] at h; exact h.2
      have w1 := is_whole_ok n b 0 20 S hb
      have w2 := is_whole_ok n b 1 6 S hb
      cases a with
      | str w =>
        have hw : PyData.strOk w = true := by simp [pw, pws] at h; exact h.1
        by_cases e1 : w = sTo
        · simp [d_is_leg, leg, eqD_str, ok_to, hw, e1, gl0, w1]
        · by_cases e2 : w = sWait
          · subst e2
            simp [d_is_leg, leg, eqD_str, ok_to, ok_wait, e1, wait_to, w2]
          · simp [d_is_leg, leg, eqD_str, ok_to, ok_wait, hw, e1, e2]
      | ob m => simp [pw, pws] at h
      | scr m => simp [pw, pws] at h
      | _ => simp [d_is_leg, leg]
  | ob m => cases h
  | scr m => cases h
  | _ => simp [d_is_leg, leg]
end Lw
end
section
set_option Elab.async false
set_option linter.all false
set_option maxRecDepth 100000
set_option maxHeartbeats 1000000
namespace Lw
open Pv PySem
theorem leg_form {v : D} (h : leg v = true) : ∃ i : Int, (v = .tup [.str sTo, .int i] ∧ 0 ≤ i ∧ i ≤ 20) ∨ (v = .tup [.str sWait, .int i] ∧ 1 ≤ i ∧ i ≤ 6) := by
  unfold leg at h
  split at h
  · rename_i w x
    split at h
    · rename_i hw
      unfold whole at h
      split at h
      · rename_i i
        simp at h
        exact ⟨i, .inl ⟨by rw [eq_of_beq hw], h⟩⟩
      · cases h
    · simp only [Bool.and_eq_true] at h
      obtain ⟨hw, h⟩ := h
      unfold whole at h
      split at h
      · rename_i i
        simp at h
        exact ⟨i, .inr ⟨by rw [eq_of_beq hw], h⟩⟩
      · cases h
  · cases h
/-- no leg goes to where one is -/
def goes : Int → List D → Bool
  | _, [] => true
  | p, .tup [.str w, .int i] :: r => if w == sTo then (if i == p then false else goes i r) else goes p r
  | _, _ :: _ => false
theorem goes_to (p i : Int) (r : List D) : goes p (.tup [.str sTo, .int i] :: r) = if i == p then false else goes i r := by simp [goes]
theorem goes_wait (p i : Int) (r : List D) : goes p (.tup [.str sWait, .int i] :: r) = goes p r := by simp [goes, wait_to]
/-- a loop's word: go on or return -/
def stopF (b : Bool) : Fl := if b then .nx else .rt (.bl false)
@[simp] theorem stopF_t : stopF true = .nx := rfl
@[simp] theorem stopF_f : stopF false = .rt (.bl false) := rfl
theorem script_loop (n : Nat) (v l y : D) (S : So) : ∀ (ls : List D) (p : Int) (x3 x4 : Sl), ls.all leg = true →
    ∃ ρ', fLoop (asg lt_is_script_1) (exs (prg Ps gl n) gl lb_is_script_1) ls [.sh v, .sh (.int p), .sh l, x3, x4, .no] S = .ok (stopF (goes p ls)) ρ' S
  | [], p, x3, x4, _ => ⟨_, rfl⟩
  | d :: ls, p, x3, x4, h => by
    simp only [List.all_cons, Bool.and_eq_true] at h
    obtain ⟨i, ⟨rfl, hi⟩ | ⟨rfl, hi⟩⟩ := leg_form h.1
    · by_cases e : i = p
      · subst e
        simp [floop_cons, lt_is_script_1, lb_is_script_1, eqD_str, ok_to, goes_to]
      · obtain ⟨ρ', q⟩ := script_loop n v l y S ls i (.sh (.str sTo)) (.sh (.int i)) h.2
        refine ⟨ρ', ?_⟩
        simp [lt_is_script_1, lb_is_script_1] at q
        simp [floop_cons, lt_is_script_1, lb_is_script_1, eqD_str, ok_to, goes_to, e, q]
    · obtain ⟨ρ', q⟩ := script_loop n v l y S ls p (.sh (.str sWait)) (.sh (.int i)) h.2
      refine ⟨ρ', ?_⟩
      simp [lt_is_script_1, lb_is_script_1] at q
      simp [floop_cons, lt_is_script_1, lb_is_script_1, eqD_str, ok_to, ok_wait, goes_wait, wait_to, q]
def script (v : D) : Bool := match v with
  | .tup [.int p, .tup ls] => whole (.int p) 0 20 && decide (ls.length ≤ 6) && ls.all leg && goes p ls
  | _ => false
theorem pws_mem : ∀ {xs : List D}, pws xs = true → ∀ d ∈ xs, pw d = true
  | [], _, _, h => by cases h
  | x :: xs, h, d, hd => by
    simp [pws] at h
    cases hd with
    | head => exact h.1
    | tail _ hd => exact pws_mem h.2 d hd
theorem lim_6 {n : Nat} (h : n ≤ 6) : n ≤ lim := by unfold lim; omega
theorem is_script_ok (n : Nat) (v : D) (S : So) (h : pw v = true) : prg Ps gl (n + 4) i_is_script [v] S = .ok (.bl (script v)) S := by
  rw [p_is_script, runD_ap rfl]
  cases v with
  | tup xs =>
    match xs, h with
    | [], h => simp [d_is_script, script]
    | [a], h => simp [d_is_script, script]
    | a :: b :: c :: r, h =>
      have e : ((r.length : Int) + 1 + 1 + 1 == 2) = false := by rw [beq_eq_false_iff_ne]; omega
      simp [d_is_script, script, e]
    | [a, b], h =>
      have ha : pw a = true := by simp [pw, pws] at h; exact h.1
      have hb : pw b = true := by simp [pw, pws] at h; exact h.2
      have w1 := is_whole_ok (n + 1) a 0 20 S ha
      cases a with
      | int p =>
        by_cases hp : whole (.int p) 0 20 = true
        · cases b with
          | tup ls =>
            have hl := pws_mem (xs := ls) (by simpa [pw] using hb)
            by_cases h6 : ls.length ≤ 6
            · have n6 : ¬ (6 < (ls.length : Int)) := by omega
              have c1 : cLoop [5] (asg ct_is_script_0) (evc (prg Ps gl (n + 3)) gl .non) (ev (prg Ps gl (n + 3)) gl ce_is_script_0) ls [] [.sh (.tup [.int p, .tup ls]), .sh (.int p), .sh (.tup ls), .no, .no, .no] S = .ok (ls.map fun d => .bl (leg d)) [.sh (.tup [.int p, .tup ls]), .sh (.int p), .sh (.tup ls), .no, .no, .no] S := by
                refine cLoop_all ls (lim_6 h6) fun d hd => ?_
                have w2 := is_leg_ok n d S (hl d hd)
                exact ⟨[.sh (.tup [.int p, .tup ls]), .sh (.int p), .sh (.tup ls), .no, .no, .sh d], by simp [ct_is_script_0], by simp [wipeR], by simp [ce_is_script_0, w2]⟩
              by_cases hg : ls.all leg = true
              · obtain ⟨ρ', q⟩ := script_loop (n + 3) (.tup [.int p, .tup ls]) (.tup ls) .non S ls p .no .no hg
                have hg' : (ls.map leg).all id = true := by simpa using hg
                cases hgo : goes p ls <;> simp [hgo] at q <;> simp [d_is_script, script, w1, hp, h6, n6, noOw, wipeR, backR, c1, bltD, blsOf_map, hg, q, gl0, hgo]
              · simp [d_is_script, script, w1, hp, h6, n6, noOw, wipeR, backR, c1, bltD, blsOf_map, hg, gl0]
            · have n6 : (6 < (ls.length : Int)) := by omega
              simp [d_is_script, script, w1, hp, h6, n6, gl0]
          | ob m => cases hb
          | scr m => cases hb
          | _ => simp [d_is_script, script, w1, hp, gl0]
        · have hs : script (.tup [.int p, b]) = false := by cases b <;> simp [script, hp]
          simp [d_is_script, hs, w1, hp, gl0]
      | ob m => cases ha
      | scr m => cases ha
      | _ => simp [d_is_script, script, w1, whole, gl0]
  | ob m => cases h
  | scr m => cases h
  | _ => simp [d_is_script, script]
end Lw
end
section
set_option Elab.async false
set_option linter.all false
set_option maxRecDepth 100000
set_option maxHeartbeats 1000000
namespace Lw
open Pv PySem
theorem script_form {v : D} (h : script v = true) : ∃ (p : Int) (ls : List D), v = .tup [.int p, .tup ls] ∧ 0 ≤ p ∧ p ≤ 20 ∧ ls.length ≤ 6 ∧ ls.all leg = true ∧ goes p ls = true := by
  unfold script at h
  split at h
  · rename_i p ls
    simp only [Bool.and_eq_true, whole, decide_eq_true_eq] at h
    exact ⟨p, ls, rfl, h.1.1.1.1, h.1.1.1.2, h.1.1.2, h.1.2, h.2⟩
  · cases h
def legsOf : D → List D
  | .tup [_, .tup ls] => ls
  | _ => []
/-- a wait for more legs than so many -/
def over (n : Nat) (l : D) : Bool := match l with
  | .tup [.str w, .int i] => w == sWait && decide ((n : Int) < i)
  | _ => false
def pair (v : D) : Bool := match v with
  | .tup [a, b] => script a && script b && !(legsOf a).any (over (legsOf b).length) && !(legsOf b).any (over (legsOf a).length)
  | _ => false
theorem pair_comp (n : Nat) (v a p : D) (lb : List D) (S : So) (ls : List D) (hl : ls.length ≤ 6) (h : ls.all leg = true) :
    cLoop [3, 4] (asg ct_is_pair_2) (evc (prg Ps gl n) gl .non) (ev (prg Ps gl n) gl ce_is_pair_2) ls [] [.sh v, .sh a, .sh (.tup [p, .tup lb]), .no, .no] S = .ok (ls.map fun d => .bl (over lb.length d)) [.sh v, .sh a, .sh (.tup [p, .tup lb]), .no, .no] S := by
  refine cLoop_all ls (lim_6 hl) fun d hd => ?_
  rw [List.all_eq_true] at h
  obtain ⟨i, ⟨rfl, hi⟩ | ⟨rfl, hi⟩⟩ := leg_form (h d hd)
  · exact ⟨[.sh v, .sh a, .sh (.tup [p, .tup lb]), .sh (.str sTo), .sh (.int i)], by simp [ct_is_pair_2], by simp [wipeR], by simp [ce_is_pair_2, eqD_str, ok_to, ok_wait, over, to_wait]⟩
  · exact ⟨[.sh v, .sh a, .sh (.tup [p, .tup lb]), .sh (.str sWait), .sh (.int i)], by simp [ct_is_pair_2], by simp [wipeR], by simp [ce_is_pair_2, eqD_str, ok_to, ok_wait, over]⟩
theorem is_pair_ok (n : Nat) (v : D) (S : So) (h : pw v = true) : prg Ps gl (n + 5) i_is_pair [v] S = .ok (.bl (pair v)) S := by
  rw [p_is_pair, runD_ap rfl]
  cases v with
  | tup xs =>
    match xs, h with
    | [], h => simp [d_is_pair, pair]
    | [a], h => simp [d_is_pair, pair]
    | a :: b :: c :: r, h =>
      have e : ((r.length : Int) + 1 + 1 + 1 == 2) = false := by rw [beq_eq_false_iff_ne]; omega
      simp [d_is_pair, pair, e]
    | [a, b], h =>
      have hm := pws_mem (xs := [a, b]) (by simpa [pw] using h)
      have c1 : cLoop [1] (asg ct_is_pair_0) (evc (prg Ps gl (n + 4)) gl .non) (ev (prg Ps gl (n + 4)) gl ce_is_pair_0) [a, b] [] [.sh (.tup [a, b]), .no, .no, .no, .no] S = .ok ([a, b].map fun d => .bl (script d)) [.sh (.tup [a, b]), .no, .no, .no, .no] S := by
        refine cLoop_all _ (by simp [lim]) fun d hd => ?_
        have w2 := is_script_ok n d S (hm d hd)
        exact ⟨[.sh (.tup [a, b]), .sh d, .no, .no, .no], by simp [ct_is_pair_0], by simp [wipeR], by simp [ce_is_pair_0, w2]⟩
      by_cases ha : script a = true
      · by_cases hb : script b = true
        · obtain ⟨p, la, rfl, _, _, a1, a2, _⟩ := script_form ha
          obtain ⟨q, lb, rfl, _, _, b1, b2, _⟩ := script_form hb
          have c2 := pair_comp (n + 4) (.tup [.tup [.int p, .tup la], .tup [.int q, .tup lb]]) (.tup [.int p, .tup la]) (.int q) lb S la a1 a2
          have c3 := pair_comp (n + 4) (.tup [.tup [.int p, .tup la], .tup [.int q, .tup lb]]) (.tup [.int q, .tup lb]) (.int p) la S lb b1 b2
          by_cases h1 : (la.map (over lb.length)).any id = true
          · have h1' : la.any (over lb.length) = true := by simpa using h1
            simp [d_is_pair, pair, c1, noOw, wipeR, backR, bltD, blsOf, ha, hb, floop_cons, lt_is_pair_1, lb_is_pair_1, rvD, lim, c2, blsOf_map, h1', legsOf]
          · have h1' : la.any (over lb.length) = false := by simpa using h1
            by_cases h2 : lb.any (over la.length) = true
            · simp [d_is_pair, pair, c1, noOw, wipeR, backR, bltD, blsOf, ha, hb, floop_cons, lt_is_pair_1, lb_is_pair_1, rvD, lim, c2, c3, blsOf_map, h1', h2, legsOf]
            · have h2' : lb.any (over la.length) = false := by simpa using h2
              simp [d_is_pair, pair, c1, noOw, wipeR, backR, bltD, blsOf, ha, hb, floop_cons, lt_is_pair_1, lb_is_pair_1, rvD, lim, c2, c3, blsOf_map, h1', h2', legsOf]
        · simp [d_is_pair, pair, c1, noOw, wipeR, backR, bltD, blsOf, ha, hb]
      · simp [d_is_pair, pair, c1, noOw, wipeR, backR, bltD, blsOf, ha]
  | ob m => cases h
  | scr m => cases h
  | _ => simp [d_is_pair, pair]
theorem need_pair_ok (n : Nat) (v : D) (S : So) (h : pw v = true) : prg Ps gl (n + 6) i_need_pair [v] S = if pair v = true then .ok .non S else .ex 2 S := by
  rw [p_need_pair, runD_ap rfl]
  have w := is_pair_ok n v S h
  cases hs : pair v <;> simp [d_need_pair, w, hs]
def absI (i : Int) : Int := if i < 0 then -i else i
@[simp] theorem abs_i (i : Int) : bltD .abs [.int i] = some (.int (absI i)) := rfl
end Lw
end
section
set_option Elab.async false
set_option linter.all false
set_option maxRecDepth 100000
set_option maxHeartbeats 1000000
namespace Lw
open Pv PySem
theorem leg_pv {d : D} (h : leg d = true) : pv 6 1 d = true := by
  obtain ⟨i, ⟨rfl, hi⟩ | ⟨rfl, hi⟩⟩ := leg_form h <;> simp [pv, pvF, ok_to, ok_wait]
/-- the places behind the legs -/
def spotsT : Int → List D → List Int
  | _, [] => []
  | p, .tup [.str w, .int i] :: r => if w == sTo then i :: spotsT i r else p :: spotsT p r
  | p, _ :: r => p :: spotsT p r
theorem spotsT_len : ∀ (p : Int) (ls : List D), (spotsT p ls).length = ls.length
  | _, [] => rfl
  | p, d :: r => by
    unfold spotsT
    split
    · rename_i h; cases h
    · rename_i h
      cases h
      split <;> simp [spotsT_len]
    · rename_i h
      cases h
      simp [spotsT_len]
theorem spotsT_bd : ∀ (p : Int) (ls : List D), 0 ≤ p → p ≤ 20 → ls.all leg = true → ∀ i ∈ spotsT p ls, 0 ≤ i ∧ i ≤ 20
  | _, [], _, _, _ => by simp [spotsT]
  | p, d :: r, h0, h1, h => by
    simp only [List.all_cons, Bool.and_eq_true] at h
    obtain ⟨i, ⟨rfl, hi⟩ | ⟨rfl, hi⟩⟩ := leg_form h.1
    · intro j hj
      simp [spotsT] at hj
      rcases hj with rfl | hj
      · exact hi
      · exact spotsT_bd i r hi.1 hi.2 h.2 j hj
    · intro j hj
      simp [spotsT, wait_to] at hj
      rcases hj with rfl | hj
      · exact ⟨h0, h1⟩
      · exact spotsT_bd p r h0 h1 h.2 j hj
theorem spots_loop (n : Nat) (v : D) (S : So) : ∀ (ls : List D) (p : Int) (xs : List D) (x y : Sl), ls.all leg = true → xs.length + ls.length + 2 < lim →
    ∃ x' y', fLoop (asg lt__law_spots_0) (exs (prg Ps gl n) gl lb__law_spots_0) ls [.sh v, .ow (xs ++ [.int p]), x, y] S = .ok .nx [.sh v, .ow (xs ++ [.int p] ++ (spotsT p ls).map .int), x', y'] S
  | [], p, xs, x, y, _, _ => ⟨x, y, by simp [spotsT]⟩
  | d :: ls, p, xs, x, y, h, hl => by
    simp only [List.all_cons, Bool.and_eq_true] at h
    rw [List.length_cons] at hl
    have l1 : xs.length + 1 < lim := by omega
    obtain ⟨i, ⟨rfl, hi⟩ | ⟨rfl, hi⟩⟩ := leg_form h.1
    · obtain ⟨x', y', q⟩ := spots_loop n v S ls i (xs ++ [.int p]) (.sh (.str sTo)) (.sh (.int i)) h.2 (by rw [List.length_append, List.length_singleton]; omega)
      refine ⟨x', y', ?_⟩
      simp [lt__law_spots_0, lb__law_spots_0] at q
      simp [floop_cons, lt__law_spots_0, lb__law_spots_0, eqD_str, ok_to, l1, q, spotsT]
    · obtain ⟨x', y', q⟩ := spots_loop n v S ls p (xs ++ [.int p]) (.sh (.str sWait)) (.sh (.int i)) h.2 (by rw [List.length_append, List.length_singleton]; omega)
      refine ⟨x', y', ?_⟩
      simp [lt__law_spots_0, lb__law_spots_0] at q
      simp [floop_cons, lt__law_spots_0, lb__law_spots_0, eqD_str, ok_to, ok_wait, wait_to, l1, q, spotsT, negD, ixD_last]
theorem spots_ok (n : Nat) (p : Int) (ls : List D) (S : So) (h : ls.all leg = true) (hl : ls.length < 1000) : prg Ps gl (n + 1) i__law_spots [.tup [.int p, .tup ls]] S = .ok (.lst ((p :: spotsT p ls).map .int)) S := by
  rw [p__law_spots, runD_ap rfl]
  obtain ⟨x', y', q⟩ := spots_loop n (.tup [.int p, .tup ls]) S ls p [] .no .no h (by simp [lim]; omega)
  simp at q
  simp [d__law_spots, lim, q]
end Lw
end
section
set_option Elab.async false
set_option linter.all false
set_option maxRecDepth 100000
set_option maxHeartbeats 2000000
namespace Lw
open Pv PySem
@[simp] theorem ixL_0 (a : D) (l : List D) : ixD (.lst (a :: l)) (.int 0) = some a := ixD_0 a l
@[simp] theorem ixL_1 (a b : D) (l : List D) : ixD (.lst (a :: b :: l)) (.int 1) = some b := ixD_1 a b l
@[simp] theorem neg_i (i : Int) : negD (.int i) = some (.int (-i)) := rfl
@[simp] theorem setIx_0 (a b x : D) : setIx [a, b] (.int 0) x = some [x, b] := by simp [setIx, L2.ixN]
@[simp] theorem setIx_1 (a b x : D) : setIx [a, b] (.int 1) x = some [a, x] := by simp [setIx, L2.ixN]
@[simp] theorem mul_i {i j : Int} (h : okMul i j = true) : binD .mul (.int i) (.int j) = some (.int (i * j)) := by simp [binD, h]
@[simp] theorem max_i (i j : Int) : bltD .max [.int i, .int j] = some (.int (if j > i then j else i)) := rfl
theorem add_l {xs ys : List D} (h : xs.length + ys.length ≤ lim) : binD .add (.lst xs) (.lst ys) = some (.lst (xs ++ ys)) := by simp [binD, h]
theorem okMul_of {i j : Int} (hi : i.natAbs < 2 ^ 100) (hj : j.natAbs < 2 ^ 100) : okMul i j = true := by
  unfold okMul
  rw [decide_eq_true_eq]
  have h : ∀ x : Nat, x < 2 ^ 100 → x.log2 < 1000 := fun x hx => by
    by_cases e : x = 0
    · subst e; decide
    · have := (Nat.log2_lt (n := x) (k := 100) e).mpr hx
      omega
  have := h _ hi
  have := h _ hj
  omega
@[simp] theorem mod_i {i j : Int} (h : 0 < j) : binD .mod (.int i) (.int j) = some (.int (i % j)) := by simp [binD, h]
theorem scr_at {ns : List Int} {i : Int} (h0 : 0 ≤ i) (h1 : i < (ns.length : Int)) : ∃ c : Int, ixD (.scr ns) (.int i) = some (.int c) := by
  have hi : i.toNat < ns.length := by omega
  refine ⟨ns[i.toNat], ?_⟩
  show (L2.atI ns i).map D.int = _
  unfold L2.atI L2.ixN
  rw [if_pos h0, if_pos h1]
  simp [List.getElem?_eq_getElem hi]
theorem cell_ok (n : Nat) (ns : List Int) (k : Nat) (S : So) (hk : k < 8) : ∃ c : Int, prg Ps gl (n + 1) i__law_cell [.scr ns, .int (k : Nat)] S = .ok (.int c) S := by
  rw [p__law_cell, runD_ap rfl]
  have o1 : okMul 7919 (k : Int) = true := okMul_of (by decide) (by omega)
  by_cases h : k < ns.length
  · obtain ⟨c, hc⟩ := scr_at (ns := ns) (i := (k : Int)) (by omega) (by omega)
    exact ⟨c, by simp [d__law_cell, h, hc]⟩
  · by_cases h0 : ns.length = 0
    · have e : ns = [] := List.eq_nil_of_length_eq_zero h0
      subst e
      have hk0 : ¬ ((k : Int) < 0) := by omega
      exact ⟨7919 * k + 101, by simp [d__law_cell, o1, hk0]⟩
    · have hp : (0 : Int) < (ns.length : Int) := by omega
      obtain ⟨c, hc⟩ := scr_at (ns := ns) (i := (k : Int) % (ns.length : Int)) (Int.emod_nonneg _ (by omega)) (Int.emod_lt_of_pos _ hp)
      have hp' : 0 < ns.length := by omega
      have hn : ((ns.length : Int) == 0) = false := by rw [beq_eq_false_iff_ne]; omega
      exact ⟨c % 1000003 + 7919 * k, by simp [d__law_cell, h, hn, hc, o1, hp']⟩
def primes : List D := [.int 2147483647, .int 2147483629, .int 2147483587, .int 2147483579, .int 2147483563, .int 2147483549, .int 2147483543, .int 2147483497]
theorem ix_mem {l : List D} {i : Int} (h0 : 0 ≤ i) (h1 : i < (l.length : Int)) : ∃ v, v ∈ l ∧ ixD (.tup l) (.int i) = some v := by
  have hi : i.toNat < l.length := by omega
  have := ixD_nat (xs := l) (i := i.toNat) (d := l[i.toNat]) (List.getElem?_eq_getElem hi)
  rw [Int.toNat_of_nonneg h0] at this
  exact ⟨_, List.getElem_mem hi, this⟩
theorem ixL_mem {l : List D} {i : Int} (h0 : 0 ≤ i) (h1 : i < (l.length : Int)) : ∃ v, v ∈ l ∧ ixD (.lst l) (.int i) = some v := ix_mem h0 h1
theorem prime_at (x : Int) : ∃ q : Int, ixD (.tup primes) (.int (x % 8)) = some (.int q) ∧ 0 < q ∧ q < 2 ^ 31 := by
  obtain ⟨v, hv, e⟩ := ix_mem (l := primes) (i := x % 8) (Int.emod_nonneg _ (by decide)) (Int.emod_lt_of_pos _ (by decide))
  rw [e]
  simp only [primes, List.mem_cons, List.not_mem_nil, or_false] at hv
  rcases hv with h | h | h | h | h | h | h | h <;> subst h <;> exact ⟨_, rfl, by decide, by decide⟩
theorem mod_lt {x q : Int} (h0 : 0 < q) (h1 : q < 2 ^ 31) : 0 ≤ x % q ∧ x % q < 2 ^ 31 := by
  have := Int.emod_nonneg x (b := q) (by omega)
  have := Int.emod_lt_of_pos x h0
  omega
theorem sq_bd {x : Int} (h0 : 0 ≤ x) (h1 : x < 2 ^ 31) : 0 ≤ x * x ∧ x * x < 2 ^ 62 := by
  refine ⟨Int.mul_nonneg h0 h0, ?_⟩
  have h2 : x * x ≤ x * 2 ^ 31 := Int.mul_le_mul_of_nonneg_left (by omega) h0
  omega
@[simp] theorem fdiv_i {i : Int} : binD .fdiv (.int i) (.int 27720) = some (.int (i / 27720)) := by
  have h : okDiv 27720 = true := by decide +kernel
  simp [binD, h]
theorem draws_loop (n : Nat) (s0 : D) (k : Nat) (c : Int) (S : So) (hk : k < 8) : ∀ (js : List Nat) (r : Int) (is : List Int) (x8 x9 : Sl), (∀ j ∈ js, j < 1000) → is.length + js.length < 1000 →
    ∃ (is' : List Int) (ρ' : List Sl), fLoop (asg lt__law_draws_0) (exs (prg Ps gl n) gl lb__law_draws_0) (js.map fun j => .int (j : Nat)) [.sh s0, .sh (.int (k : Nat)), .sh (.int 150), .sh (.int 27720), .sh (.tup primes), .sh (.int c), .sh (.int r), .ow (is.map .int), x8, x9] S = .ok .nx (.sh s0 :: .sh (.int (k : Nat)) :: .sh (.int 150) :: .sh (.int 27720) :: .sh (.tup primes) :: .sh (.int c) :: ρ') S ∧ ρ'[1]? = some (.ow (is'.map .int))
  | [], r, is, x8, x9, _, _ => ⟨is, _, rfl, rfl⟩
  | j :: js, r, is, x8, x9, hj, hl => by
    have hj0 : j < 1000 := hj j (List.mem_cons_self ..)
    have l1 : is.length < lim := by rw [List.length_cons] at hl; unfold lim; omega
    obtain ⟨q1, e1, a1, b1⟩ := prime_at (j : Int)
    obtain ⟨q2, e2, a2, b2⟩ := prime_at (3 * (j : Int) + (k : Int))
    obtain ⟨q3, e3, a3, b3⟩ := prime_at ((j : Int) + 5)
    have m1 := mod_lt (x := c) a1 b1
    have o1 : okMul 2 (j : Int) = true := okMul_of (by decide) (by omega)
    have o2 : okMul (2 * (j : Int)) (j : Int) = true := okMul_of (by omega) (by omega)
    have jj : (j : Int) * (j : Int) ≤ 1000 * 1000 := Int.mul_le_mul (by omega) (by omega) (by omega) (by omega)
    have jj0 : 0 ≤ (j : Int) * (j : Int) := Int.mul_nonneg (by omega) (by omega)
    have j2 : 2 * (j : Int) * (j : Int) = 2 * ((j : Int) * (j : Int)) := Int.mul_assoc ..
    have o3 : okMul (c % q1) (48271 + 2 * (j : Int) * (j : Int)) = true := okMul_of (by omega) (by omega)
    have o4 : okMul 7919 ((j : Int) + 1) = true := okMul_of (by decide) (by omega)
    have o5 : okMul (7919 * ((j : Int) + 1)) ((j : Int) + 1) = true := okMul_of (by omega) (by omega)
    have o6 : okMul 104729 (k : Int) = true := okMul_of (by decide) (by omega)
    have o7 : okMul 3 (j : Int) = true := okMul_of (by decide) (by omega)
    generalize em : c % q1 * (48271 + 2 * (j : Int) * (j : Int)) + (7919 * ((j : Int) + 1) * ((j : Int) + 1) + 104729 * (k : Int)) = m at *
    have m2 := mod_lt (x := c % q1 * (48271 + 2 * (j : Int) * (j : Int)) + 7919 * ((j : Int) + 1) * ((j : Int) + 1) + 104729 * (k : Int)) a2 b2
    generalize em2 : (c % q1 * (48271 + 2 * (j : Int) * (j : Int)) + 7919 * ((j : Int) + 1) * ((j : Int) + 1) + 104729 * (k : Int)) % q2 = m3 at *
    have sq := sq_bd m2.1 m2.2
    have o8 : okMul m3 m3 = true := okMul_of (by omega) (by omega)
    have o9 : okMul (m3 * m3) m3 = true := okMul_of (by omega) (by omega)
    by_cases hr : 0 < r
    · obtain ⟨is', ρ', e, f⟩ := draws_loop n s0 k c S hk js (r / 27720) (is ++ [r % 27720]) (.sh (.int (j : Nat))) (.sh (.int r)) (fun i hi => hj i (List.mem_cons_of_mem _ hi)) (by rw [List.length_append, List.length_singleton]; rw [List.length_cons] at hl; omega)
      refine ⟨is', ρ', ?_, f⟩
      simp [lt__law_draws_0, lb__law_draws_0] at e
      simp [floop_cons, lt__law_draws_0, lb__law_draws_0, e1, e2, e3, a1, a2, a3, o1, o2, o3, o4, o5, o6, o7, em2, o8, o9, hr, l1, e]
    · obtain ⟨is', ρ', e, f⟩ := draws_loop n s0 k c S hk js (r / 27720) (is ++ [m3 * m3 * m3 % q3 % 27720]) (.sh (.int (j : Nat))) (.sh (.int (m3 * m3 * m3 % q3))) (fun i hi => hj i (List.mem_cons_of_mem _ hi)) (by rw [List.length_append, List.length_singleton]; rw [List.length_cons] at hl; omega)
      refine ⟨is', ρ', ?_, f⟩
      simp [lt__law_draws_0, lb__law_draws_0] at e
      simp [floop_cons, lt__law_draws_0, lb__law_draws_0, e1, e2, e3, a1, a2, a3, o1, o2, o3, o4, o5, o6, o7, em2, o8, o9, hr, l1, e]
theorem rng_150 : rng1 (.int 150) = some ((List.range 150).map fun j => .int (j : Nat)) := by
  simp [rng1]
theorem draws_ok (n : Nat) (ns : List Int) (k : Nat) (S : So) (hk : k < 8) : ∃ is : List Int, prg Ps gl (n + 2) i__law_draws [.scr ns, .int (k : Nat), .int 150, .int 27720] S = .own (is.map .int) S := by
  obtain ⟨c, hc⟩ := cell_ok n ns k S hk
  rw [p__law_draws, runD_ap rfl]
  have hp : powD 10 18 = some (.int (10 ^ 18)) := by simp [powD]
  by_cases h : (10 ^ 18 : Int) ≤ c
  · obtain ⟨is', ρ', e, f⟩ := draws_loop (n + 1) (.scr ns) k c S hk (List.range 150) c [] .no .no (fun j hj => by rw [List.mem_range] at hj; omega) (by simp)
    refine ⟨is', ?_⟩
    simp [primes] at e
    simp at h
    simp [d__law_draws, hc, hp, h, lim, rng_150, e, f]
  · obtain ⟨is', ρ', e, f⟩ := draws_loop (n + 1) (.scr ns) k c S hk (List.range 150) 0 [] .no .no (fun j hj => by rw [List.mem_range] at hj; omega) (by simp)
    refine ⟨is', ?_⟩
    simp [primes] at e
    simp at h
    have h' : ¬ (1000000000000000000 ≤ c) := by omega
    simp [d__law_draws, hc, hp, h', lim, rng_150, e, f]
theorem bag_ok (n : Nat) (ns : List Int) (k : Nat) (S : So) (hk : k < 8) : ∃ is : List Int, prg Ps gl (n + 3) i__law_bag [.scr ns, .int (k : Nat)] S = .own (is.map .int) S := by
  obtain ⟨is, h⟩ := draws_ok n ns k S hk
  rw [p__law_bag, runD_ap rfl]
  exact ⟨is, by simp [d__law_bag, h]⟩
end Lw
end
section
set_option Elab.async false
set_option linter.all false
set_option maxRecDepth 100000
set_option maxHeartbeats 2000000
namespace Lw
open Pv PySem
/-- the object is a bag of numbers -/
def Bag (n : Nat) (S : So) : Prop := ∃ is : List Int, S[n]? = some (.lst (is.map .int))
theorem ints_nil (is : List Int) : eqD (.lst (is.map .int)) (.lst []) = some is.isEmpty := by
  have h : pv is.length 1 (.lst (is.map .int)) = true := by simp [pv, pvF]
  rw [eqD_lst_nil h (by omega)]
  cases is <;> rfl
theorem ints_ne (i : Int) (is : List Int) : eqD (.lst (.int i :: is.map .int)) (.lst []) = some false := ints_nil (i :: is)
theorem int_i (i : Int) : bltD .int [.int i] = some (.int i) := rfl
theorem take_ok (k n : Nat) (m : Int) (S : So) (hm : 0 < m) (hb : Bag n S) : ∃ (r : Int) (S' : So), prg Ps gl (k + 1) i__law_take [.ob n, .int m] S = .ok (.int r) S' ∧ 0 ≤ r ∧ r < m ∧ Bag n S' := by
  obtain ⟨is, hs⟩ := hb
  rw [p__law_take, runD_ap rfl]
  cases is with
  | nil =>
    have e : eqD (.lst []) (.lst []) = some true := ints_nil []
    refine ⟨0, S, ?_, by omega, by omega, ⟨[], hs⟩⟩
    simp at hs
    simp [d__law_take, hs, e, int_i, hm]
  | cons i is =>
    have hl : n < S.length := (List.getElem?_eq_some_iff.mp hs).1
    refine ⟨i % m, S.set n (.lst (is.map .int)), ?_, Int.emod_nonneg _ (by omega), Int.emod_lt_of_pos _ hm, ⟨is, by simp [hl]⟩⟩
    simp at hs
    simp [d__law_take, hs, ints_ne, int_i, hm]
def endP : Int → List D → Int
  | p, [] => p
  | p, .tup [.str w, .int i] :: r => if w == sTo then endP i r else endP p r
  | p, _ :: r => endP p r
theorem endP_to (p i : Int) (r : List D) : endP p (.tup [.str sTo, .int i] :: r) = endP i r := by simp [endP]
theorem endP_wait (p i : Int) (r : List D) : endP p (.tup [.str sWait, .int i] :: r) = endP p r := by simp [endP, wait_to]
theorem endP_app : ∀ (xs ys : List D) (p : Int), xs.all leg = true → endP p (xs ++ ys) = endP (endP p xs) ys
  | [], ys, p, _ => rfl
  | d :: xs, ys, p, h => by
    simp only [List.all_cons, Bool.and_eq_true] at h
    obtain ⟨i, ⟨rfl, hi⟩ | ⟨rfl, hi⟩⟩ := leg_form h.1
    · rw [List.cons_append, endP_to, endP_to, endP_app xs ys i h.2]
    · rw [List.cons_append, endP_wait, endP_wait, endP_app xs ys p h.2]
theorem goes_app : ∀ (xs ys : List D) (p : Int), xs.all leg = true → goes p (xs ++ ys) = (goes p xs && goes (endP p xs) ys)
  | [], ys, p, _ => by simp [goes, endP]
  | d :: xs, ys, p, h => by
    simp only [List.all_cons, Bool.and_eq_true] at h
    obtain ⟨i, ⟨rfl, hi⟩ | ⟨rfl, hi⟩⟩ := leg_form h.1
    · rw [List.cons_append, goes_to, goes_to, endP_to, goes_app xs ys i h.2]
      by_cases e : i = p <;> simp [e]
    · rw [List.cons_append, goes_wait, goes_wait, endP_wait, goes_app xs ys p h.2]
/-- legs drawn so far -/
structure Drawn (p : Int) (o : Nat) (xs : List D) (at_ : Int) (k : Nat) : Prop where
  legs : xs.all leg = true
  goes : goes p xs = true
  end_ : endP p xs = at_
  over : xs.any (over o) = false
  len : xs.length = k
theorem Drawn.wait {p : Int} {o : Nat} {xs : List D} {a : Int} {k : Nat} (h : Drawn p o xs a k) {i : Int} (h0 : 1 ≤ i) (h1 : i ≤ (o : Int)) (h2 : i ≤ 6) : Drawn p o (xs ++ [.tup [.str sWait, .int i]]) a (k + 1) where
  legs := by
    have e : leg (.tup [.str sWait, .int i]) = true := by simp [leg, wait_to, whole, h0, h2]
    simp [h.legs, e]
  goes := by rw [goes_app _ _ _ h.legs, h.goes, goes_wait]; rfl
  end_ := by rw [endP_app _ _ _ h.legs, endP_wait]; exact h.end_
  over := by
    have e : Lw.over o (.tup [.str sWait, .int i]) = false := by simp [Lw.over]; omega
    rw [List.any_append, h.over]
    simp [e]
  len := by simp [h.len]
theorem Drawn.to {p : Int} {o : Nat} {xs : List D} {a : Int} {k : Nat} (h : Drawn p o xs a k) {i : Int} (h0 : 0 ≤ i) (h1 : i ≤ 20) (h2 : i ≠ a) : Drawn p o (xs ++ [.tup [.str sTo, .int i]]) i (k + 1) where
  legs := by
    have e : leg (.tup [.str sTo, .int i]) = true := by simp [leg, whole, h0, h1]
    simp [h.legs, e]
  goes := by
    rw [goes_app _ _ _ h.legs, h.goes, goes_to, h.end_]
    simp [h2, Lw.goes]
  end_ := by rw [endP_app _ _ _ h.legs, endP_to]; rfl
  over := by
    have e : Lw.over o (.tup [.str sTo, .int i]) = false := by simp [Lw.over, to_wait]
    rw [List.any_append, h.over]
    simp [e]
  len := by simp [h.len]
theorem script_drawn_loop (m n : Nat) (L : D) (o : Nat) (st : D) (p : Int) (ho : o ≤ 5) : ∀ (items : List D) (a : Int) (xs : List D) (k : Nat) (S : So) (x4 x7 : Sl), Bag n S → Drawn p o xs a k → 0 ≤ a → a ≤ 8 → k + items.length < 1000 →
    ∃ (a' : Int) (xs' : List D) (S' : So) (y4 y7 : Sl), fLoop (asg lt__law_script_0) (exs (prg Ps gl (m + 1)) gl lb__law_script_0) items [.sh (.ob n), .sh L, .sh (.int (o : Nat)), .sh st, x4, .sh (.int a), .ow xs, x7] S = .ok .nx [.sh (.ob n), .sh L, .sh (.int (o : Nat)), .sh st, y4, .sh (.int a'), .ow xs', y7] S' ∧ Bag n S' ∧ Drawn p o xs' a' (k + items.length)
  | [], a, xs, k, S, x4, x7, hb, hd, _, _, _ => ⟨a, xs, S, x4, x7, rfl, hb, hd⟩
  | t :: items, a, xs, k, S, x4, x7, hb, hd, a0, a1, hk => by
    rw [List.length_cons] at hk
    have l1 : xs.length < 16777216 := by rw [hd.len]; omega
    have go : ∀ (S1 : So), Bag n S1 → ∃ (g : Int) (S2 : So), prg Ps gl (m + 1) i__law_take [.ob n, .int 8] S1 = .ok (.int g) S2 ∧ 0 ≤ g ∧ g < 8 ∧ Bag n S2 := fun S1 h1 => take_ok m n 8 S1 (by decide) h1
    have fin : ∀ (S1 : So) (g : Int) (S2 : So), prg Ps gl (m + 1) i__law_take [.ob n, .int 8] S1 = .ok (.int g) S2 → 0 ≤ g → g < 8 → Bag n S2 → ∃ (b : Int) (a' : Int) (xs' : List D) (S' : So) (y4 y7 : Sl), b = (if g < a then g else g + 1) ∧ fLoop (asg lt__law_script_0) (exs (prg Ps gl (m + 1)) gl lb__law_script_0) items [.sh (.ob n), .sh L, .sh (.int (o : Nat)), .sh st, .sh t, .sh (.int b), .ow (xs ++ [.tup [.str sTo, .int b]]), .sh (.int g)] S2 = .ok .nx [.sh (.ob n), .sh L, .sh (.int (o : Nat)), .sh st, y4, .sh (.int a'), .ow xs', y7] S' ∧ Bag n S' ∧ Drawn p o xs' a' (k + (items.length + 1)) := by
      intro S1 g S2 _ g0 g1 hb2
      have hne : (if g < a then g else g + 1) ≠ a := by split <;> omega
      have hn0 : 0 ≤ (if g < a then g else g + 1) := by split <;> omega
      have hn1 : (if g < a then g else g + 1) ≤ 8 := by split <;> omega
      obtain ⟨a', xs', S', y4, y7, e, f1, f2⟩ := script_drawn_loop m n L o st p ho items _ _ (k + 1) S2 (.sh t) (.sh (.int g)) hb2 (hd.to hn0 (by omega) hne) hn0 hn1 (by omega)
      exact ⟨_, a', xs', S', y4, y7, rfl, e, f1, by rw [show k + (items.length + 1) = k + 1 + items.length by omega]; exact f2⟩
    by_cases h0 : 0 < o
    · have h0' : (0 : Int) < (o : Int) := by omega
      obtain ⟨r1, S1, t1, r10, r11, b1⟩ := take_ok m n 4 S (by decide) hb
      by_cases hr : r1 = 0
      · subst hr
        obtain ⟨r2, S2, t2, r20, r21, b2⟩ := take_ok m n (o : Int) S1 h0' b1
        obtain ⟨a', xs', S', y4, y7, e, f1, f2⟩ := script_drawn_loop m n L o st p ho items a _ (k + 1) S2 (.sh t) x7 b2 (hd.wait (i := 1 + r2) (by omega) (by omega) (by omega)) a0 a1 (by omega)
        refine ⟨a', xs', S', y4, y7, ?_, f1, by rw [List.length_cons, show k + (items.length + 1) = k + 1 + items.length by omega]; exact f2⟩
        simp [lt__law_script_0, lb__law_script_0] at e
        simp [floop_cons, lt__law_script_0, lb__law_script_0, h0, t1, t2, l1, lim, e]
      · obtain ⟨g, S2, t2, g0, g1, b2⟩ := go S1 b1
        obtain ⟨b, a', xs', S', y4, y7, eb, e, f1, f2⟩ := fin S1 g S2 t2 g0 g1 b2
        refine ⟨a', xs', S', y4, y7, ?_, f1, f2⟩
        have hr' : (r1 == 0) = false := by rw [beq_eq_false_iff_ne]; exact hr
        simp [lt__law_script_0, lb__law_script_0] at e
        by_cases hg : g < a
        · rw [if_pos hg] at eb
          subst eb
          simp [floop_cons, lt__law_script_0, lb__law_script_0, h0, t1, t2, hr', l1, lim, hg, e]
        · rw [if_neg hg] at eb
          subst eb
          simp [floop_cons, lt__law_script_0, lb__law_script_0, h0, t1, t2, hr', l1, lim, hg, e]
    · obtain ⟨g, S2, t2, g0, g1, b2⟩ := go S hb
      obtain ⟨b, a', xs', S', y4, y7, eb, e, f1, f2⟩ := fin S g S2 t2 g0 g1 b2
      refine ⟨a', xs', S', y4, y7, ?_, f1, f2⟩
      simp [lt__law_script_0, lb__law_script_0] at e
      by_cases hg : g < a
      · rw [if_pos hg] at eb
        subst eb
        simp [floop_cons, lt__law_script_0, lb__law_script_0, h0, t2, l1, lim, hg, e]
      · rw [if_neg hg] at eb
        subst eb
        simp [floop_cons, lt__law_script_0, lb__law_script_0, h0, t2, l1, lim, hg, e]
end Lw
end
section
set_option Elab.async false
set_option linter.all false
set_option maxRecDepth 100000
set_option maxHeartbeats 2000000
namespace Lw
open Pv PySem
theorem rng_nat {L : Nat} (h : L ≤ 5) : rng1 (.int (L : Int)) = some ((List.range L).map fun j => .int (0 + (j : Nat))) := by
  unfold rng1
  dsimp only
  rw [if_pos (by omega), Int.toNat_natCast]
theorem script_drawn (m n : Nat) (L o : Nat) (S : So) (hL : L ≤ 5) (ho : o ≤ 5) (hb : Bag n S) : ∃ (p : Int) (xs : List D) (S' : So), prg Ps gl (m + 2) i__law_script [.ob n, .int (L : Nat), .int (o : Nat)] S = .ok (.tup [.int p, .tup xs]) S' ∧ Bag n S' ∧ script (.tup [.int p, .tup xs]) = true ∧ xs.length = L ∧ xs.any (over o) = false := by
  obtain ⟨p, S1, t1, p0, p1, b1⟩ := take_ok m n 9 S (by decide) hb
  have hr := rng_nat hL
  obtain ⟨a', xs', S', y4, y7, e, f1, f2⟩ := script_drawn_loop m n (.int (L : Nat)) o (.int p) p ho ((List.range L).map fun j => .int (0 + (j : Nat))) p [] 0 S1 .no .no b1 ⟨rfl, rfl, rfl, rfl, rfl⟩ p0 (by omega) (by simp; omega)
  refine ⟨p, xs', S', ?_, f1, ?_, by simpa using f2.len, f2.over⟩
  · rw [p__law_script, runD_ap rfl]
    simp at e
    simp [d__law_script, t1, lim, hr, e]
  · have h6 : xs'.length ≤ 6 := by have := f2.len; simp at this; omega
    simp only [script, Bool.and_eq_true, decide_eq_true_eq, whole]
    exact ⟨⟨⟨⟨p0, by omega⟩, h6⟩, f2.legs⟩, f2.goes⟩
theorem pair_drawn (m n : Nat) (S : So) (hb : Bag n S) : ∃ (v : D) (S' : So), prg Ps gl (m + 3) i__law_pair [.ob n, .int 5] S = .ok v S' ∧ Bag n S' ∧ pair v = true := by
  obtain ⟨r1, S1, t1, r10, r11, b1⟩ := take_ok (m + 1) n 6 S (by decide) hb
  obtain ⟨r2, S2, t2, r20, r21, b2⟩ := take_ok (m + 1) n 6 S1 (by decide) b1
  obtain ⟨k1, rfl⟩ : ∃ k : Nat, r1 = (k : Int) := ⟨r1.toNat, by omega⟩
  obtain ⟨k2, rfl⟩ : ∃ k : Nat, r2 = (k : Int) := ⟨r2.toNat, by omega⟩
  obtain ⟨p, xs, S3, e3, b3, s3, l3, o3⟩ := script_drawn m n k1 k2 S2 (by omega) (by omega) b2
  obtain ⟨q, ys, S4, e4, b4, s4, l4, o4⟩ := script_drawn m n k2 k1 S3 (by omega) (by omega) b3
  refine ⟨.tup [.tup [.int p, .tup xs], .tup [.int q, .tup ys]], S4, ?_, b4, ?_⟩
  · rw [p__law_pair, runD_ap rfl]
    simp [d__law_pair, t1, t2, e3, e4, lim]
  · simp [pair, s3, s4, legsOf, l3, l4, o3, o4]
end Lw
end
section
set_option Elab.async false
set_option linter.all false
set_option maxRecDepth 100000
set_option maxHeartbeats 2000000
namespace Lw
open Pv PySem
/-- numbers of a size that all rules bear -/
def sm (i : Int) : Prop := i.natAbs < 2 ^ 90
theorem okMul_sm {i j : Int} (h : sm i) (k : sm j) : okMul i j = true := okMul_of (Nat.lt_trans h (by decide)) (Nat.lt_trans k (by decide))
theorem okDiv_sm {j : Int} (h0 : 0 < j) (h : sm j) : okDiv j = true := by
  unfold okDiv
  have : j.natAbs.log2 < 9000 := by
    have := (Nat.log2_lt (n := j.natAbs) (k := 90) (by omega)).mpr h
    omega
  simp [h0, this]
@[simp] theorem fdiv_ii {i j : Int} (h : okDiv j = true) : binD .fdiv (.int i) (.int j) = some (.int (i / j)) := by simp [binD, h]
theorem gcd_step (a b : Nat) : Nat.gcd a b = Nat.gcd b (a % b) := by
  rw [Nat.gcd_comm a b, Nat.gcd_rec b a, Nat.gcd_comm]
theorem gcd_loop (n : Nat) (S : So) : ∀ (m a b k : Nat), b < 2 ^ m → 2 * m + 1 ≤ k →
    wLoop (tst (ev (prg Ps gl n) gl lc_divisor_of_0)) (exs (prg Ps gl n) gl lb_divisor_of_0) k [.sh (.int (a : Nat)), .sh (.int (b : Nat))] S = .ok .nx [.sh (.int (Nat.gcd a b : Nat)), .sh (.int 0)] S := by
  have zero : ∀ (a k : Nat), 1 ≤ k → wLoop (tst (ev (prg Ps gl n) gl lc_divisor_of_0)) (exs (prg Ps gl n) gl lb_divisor_of_0) k [.sh (.int (a : Nat)), .sh (.int 0)] S = .ok .nx [.sh (.int (a : Nat)), .sh (.int 0)] S := by
    intro a k hk
    obtain ⟨k, rfl⟩ : ∃ j, k = j + 1 := ⟨k - 1, by omega⟩
    simp [wloop_succ, lc_divisor_of_0]
  have one : ∀ (a b k : Nat), 0 < b → wLoop (tst (ev (prg Ps gl n) gl lc_divisor_of_0)) (exs (prg Ps gl n) gl lb_divisor_of_0) (k + 1) [.sh (.int (a : Nat)), .sh (.int (b : Nat))] S = wLoop (tst (ev (prg Ps gl n) gl lc_divisor_of_0)) (exs (prg Ps gl n) gl lb_divisor_of_0) k [.sh (.int (b : Nat)), .sh (.int ((a % b : Nat) : Nat))] S := by
    intro a b k hb
    have h0 : ((b : Int) == 0) = false := by rw [beq_eq_false_iff_ne]; omega
    have h1 : (0 : Int) < (b : Int) := by omega
    rw [wloop_succ]
    simp only [lc_divisor_of_0, lb_divisor_of_0]
    simp [h0, hb]
    unfold outK
    cases wLoop (tst (ev (prg Ps gl n) gl (.cmp .ne (.vr 1) (.int 0)))) (exs (prg Ps gl n) gl (.cons (.par 0 1 false false (.vr 1) (.bin .mod (.vr 0) (.vr 1))) .nil)) k [.sh (.int (b : Int)), .sh (.int ((a : Int) % (b : Int)))] S <;> rfl
  intro m
  induction m with
  | zero =>
    intro a b k hb hk
    have : b = 0 := by simpa using hb
    subst this
    rw [Nat.gcd_zero_right]
    exact zero a k (by omega)
  | succ m ih =>
    intro a b k hb hk
    by_cases h : b = 0
    · subst h
      rw [Nat.gcd_zero_right]
      exact zero a k (by omega)
    · obtain ⟨k, rfl⟩ : ∃ j, k = j + 2 := ⟨k - 2, by omega⟩
      rw [one a b (k + 1) (by omega), gcd_step a b]
      by_cases h2 : a % b = 0
      · rw [h2, Nat.gcd_zero_right]
        exact zero b (k + 1) (by omega)
      · rw [one b (a % b) k (by omega), gcd_step b (a % b)]
        refine ih _ _ _ ?_ (by omega)
        have l1 : a % b < b := Nat.mod_lt _ (by omega)
        have l2 : b % (a % b) < a % b := Nat.mod_lt _ (by omega)
        have l3 : b % (a % b) ≤ b - a % b := by
          rw [Nat.mod_eq_sub_mod (by omega)]
          exact Nat.mod_le _ _
        have : 2 ^ (m + 1) = 2 * 2 ^ m := by rw [Nat.pow_succ]; omega
        omega
theorem absI_nat (i : Int) : absI i = (i.natAbs : Int) := by
  unfold absI
  split <;> omega
theorem divisor_ok (n : Nat) (x y : Int) (S : So) (hy : sm y) : prg Ps gl (n + 1) i_divisor_of [.int x, .int y] S = .ok (.int (Int.gcd x y : Nat)) S := by
  rw [p_divisor_of, runD_ap rfl]
  have q := gcd_loop n S 90 x.natAbs y.natAbs 1000000 hy (by omega)
  simp [d_divisor_of, absI_nat, q]
  rfl
/-- a fraction in lowest terms -/
def low (t b : Int) : D := .tup [.int (t / (Int.gcd t b : Nat)), .int (b / (Int.gcd t b : Nat))]
theorem gcd_le_sm {x y : Int} (h0 : 0 < y) (hy : sm y) : 0 < ((Int.gcd x y : Nat) : Int) ∧ sm ((Int.gcd x y : Nat) : Int) := by
  have h1 : 0 < Int.gcd x y := Int.gcd_pos_of_ne_zero_right x (by omega)
  have h2 : Int.gcd x y ≤ y.natAbs := Nat.le_of_dvd (by omega) (Int.gcd_dvd_natAbs_right x y)
  exact ⟨by omega, Nat.lt_of_le_of_lt (by simpa using h2) hy⟩
theorem lowest_ok (n : Nat) (t b : Int) (S : So) (h0 : 0 < b) (hb : sm b) : prg Ps gl (n + 2) i_lowest [.int t, .int b] S = .ok (low t b) S := by
  rw [p_lowest, runD_ap rfl]
  have q := divisor_ok n t b S hb
  have g := gcd_le_sm (x := t) h0 hb
  have o := okDiv_sm g.1 g.2
  simp [d_lowest, q, o, lim, low]
theorem low_scale (k t b : Int) (hk : 0 < k) : low (k * t) (k * b) = low t b := by
  have e : ((Int.gcd (k * t) (k * b) : Nat) : Int) = k * ((Int.gcd t b : Nat) : Int) := by
    rw [Int.gcd_mul_left, Int.natCast_mul, Int.natAbs_of_nonneg (by omega)]
  unfold low
  rw [e, Int.mul_ediv_mul_of_pos _ _ hk, Int.mul_ediv_mul_of_pos _ _ hk]
theorem low_eq {t b u c : Int} (hb : 0 < b) (hc : 0 < c) (h : t * c = u * b) : low t b = low u c := by
  rw [← low_scale c t b hc, ← low_scale b u c hb, Int.mul_comm c t, h, Int.mul_comm u b, Int.mul_comm c b]
theorem law_gcd_loop (n : Nat) (x y z : Sl) (S : So) : ∀ (m a b k : Nat), b < 2 ^ m → 2 * m + 1 ≤ k →
    wLoop (tst (ev (prg Ps gl n) gl lc__law_lowest_0)) (exs (prg Ps gl n) gl lb__law_lowest_0) k [x, y, z, .sh (.int (a : Nat)), .sh (.int (b : Nat))] S = .ok .nx [x, y, z, .sh (.int (Nat.gcd a b : Nat)), .sh (.int 0)] S := by
  have zero : ∀ (a k : Nat), 1 ≤ k → wLoop (tst (ev (prg Ps gl n) gl lc__law_lowest_0)) (exs (prg Ps gl n) gl lb__law_lowest_0) k [x, y, z, .sh (.int (a : Nat)), .sh (.int 0)] S = .ok .nx [x, y, z, .sh (.int (a : Nat)), .sh (.int 0)] S := by
    intro a k hk
    obtain ⟨k, rfl⟩ : ∃ j, k = j + 1 := ⟨k - 1, by omega⟩
    simp [wloop_succ, lc__law_lowest_0]
  have one : ∀ (a b k : Nat), 0 < b → wLoop (tst (ev (prg Ps gl n) gl lc__law_lowest_0)) (exs (prg Ps gl n) gl lb__law_lowest_0) (k + 1) [x, y, z, .sh (.int (a : Nat)), .sh (.int (b : Nat))] S = wLoop (tst (ev (prg Ps gl n) gl lc__law_lowest_0)) (exs (prg Ps gl n) gl lb__law_lowest_0) k [x, y, z, .sh (.int (b : Nat)), .sh (.int ((a % b : Nat) : Nat))] S := by
    intro a b k hb
    have h0 : ((b : Int) == 0) = false := by rw [beq_eq_false_iff_ne]; omega
    rw [wloop_succ]
    simp only [lc__law_lowest_0, lb__law_lowest_0]
    simp [h0, hb]
    unfold outK
    cases wLoop (tst (ev (prg Ps gl n) gl (.cmp .ne (.vr 4) (.int 0)))) (exs (prg Ps gl n) gl (.cons (.par 3 4 false false (.vr 4) (.bin .mod (.vr 3) (.vr 4))) .nil)) k [x, y, z, .sh (.int (b : Int)), .sh (.int ((a : Int) % (b : Int)))] S <;> rfl
  intro m
  induction m with
  | zero =>
    intro a b k hb hk
    have : b = 0 := by simpa using hb
    subst this
    rw [Nat.gcd_zero_right]
    exact zero a k (by omega)
  | succ m ih =>
    intro a b k hb hk
    by_cases h : b = 0
    · subst h
      rw [Nat.gcd_zero_right]
      exact zero a k (by omega)
    · obtain ⟨k, rfl⟩ : ∃ j, k = j + 2 := ⟨k - 2, by omega⟩
      rw [one a b (k + 1) (by omega), gcd_step a b]
      by_cases h2 : a % b = 0
      · rw [h2, Nat.gcd_zero_right]
        exact zero b (k + 1) (by omega)
      · rw [one b (a % b) k (by omega), gcd_step b (a % b)]
        refine ih _ _ _ ?_ (by omega)
        have l1 : a % b < b := Nat.mod_lt _ (by omega)
        have l2 : b % (a % b) < a % b := Nat.mod_lt _ (by omega)
        have l3 : b % (a % b) ≤ b - a % b := by
          rw [Nat.mod_eq_sub_mod (by omega)]
          exact Nat.mod_le _ _
        have : 2 ^ (m + 1) = 2 * 2 ^ m := by rw [Nat.pow_succ]; omega
        omega
theorem law_lowest_ok (n : Nat) (t b : Int) (S : So) (h0 : 0 < b) (hb : sm b) (ht : sm t) : prg Ps gl (n + 1) i__law_lowest [.int t, .int b] S = .ok (low t b) S := by
  rw [p__law_lowest, runD_ap rfl]
  have q := law_gcd_loop n (.sh (.int t)) (.sh (.int b)) .no S 90 t.natAbs b.natAbs 1000000 hb (by omega)
  have g := gcd_le_sm (x := t) h0 hb
  have o := okDiv_sm g.1 g.2
  have o1 := okMul_sm (i := 1) (j := t) (by unfold sm; decide) ht
  have o2 := okMul_sm (i := 1) (j := b) (by unfold sm; decide) hb
  have eg : ((Nat.gcd t.natAbs b.natAbs : Nat) : Int) = ((Int.gcd t b : Nat) : Int) := rfl
  rw [eg] at q
  simp [d__law_lowest, absI_nat, q, h0, o, o1, o2, lim, low]
end Lw
end
section
set_option Elab.async false
set_option linter.all false
set_option maxRecDepth 100000
set_option maxHeartbeats 2000000
namespace Lw
open Pv PySem
abbrev Fm := Int × Int
def fD (f : Fm) : D := .tup [.int f.1, .int f.2]
def wrt (P f : Fm) : Int := f.1 * P.1 + f.2 * P.2
def smF (f : Fm) : Prop := sm f.1 ∧ sm f.2
theorem worth_ok (n : Nat) (P f : Fm) (S : So) (hP : smF P) (hf : smF f) : prg Ps gl (n + 1) i_worth [fD f, fD P] S = .ok (.int (wrt P f)) S := by
  rw [p_worth, runD_ap rfl]
  have o1 := okMul_sm hf.1 hP.1
  have o2 := okMul_sm hf.2 hP.2
  simp [d_worth, fD, o1, o2, wrt]
theorem minus_ok (n : Nat) (f g : Fm) (S : So) : prg Ps gl (n + 1) i_minus [fD f, fD g] S = .ok (fD (f.1 - g.1, f.2 - g.2)) S := by
  rw [p_minus, runD_ap rfl]
  simp [d_minus, fD, lim]
def wk (w : Nat) (f : Fm) (k : Int) : Fm := if w = 0 then (f.1 + k, f.2) else (f.1, f.2 + k)
theorem walked_ok (n w : Nat) (f : Fm) (k : Int) (S : So) : prg Ps gl (n + 1) i_walked [fD f, .int (w : Nat), .int k] S = .ok (fD (wk w f k)) S := by
  rw [p_walked, runD_ap rfl]
  by_cases h : w = 0
  · subst h
    simp [d_walked, fD, lim, wk]
  · have h' : ((w : Int) == 0) = false := by rw [beq_eq_false_iff_ne]; omega
    simp [d_walked, fD, lim, wk, h, h']
/-- the place behind so many legs -/
def spot (p : Int) (A : List D) (k : Nat) : Int := endP p (A.take k)
def tos : List D → List Int
  | [] => []
  | .tup [.str w, .int i] :: r => if w == sTo then i :: tos r else tos r
  | _ :: r => tos r
def isTo : D → Bool
  | .tup [.str w, .int _] => w == sTo
  | _ => false
def numOf : D → D
  | .tup [_, x] => x
  | _ => .non
theorem tos_eq : ∀ A : List D, A.all leg = true → (A.filter isTo).map numOf = (tos A).map .int
  | [], _ => rfl
  | d :: A, h => by
    simp only [List.all_cons, Bool.and_eq_true] at h
    obtain ⟨i, ⟨rfl, hi⟩ | ⟨rfl, hi⟩⟩ := leg_form h.1
    · simp [isTo, tos, tos_eq A h.2, numOf]
    · simp [isTo, tos, tos_eq A h.2, wait_to]
theorem last_tos : ∀ (A : List D) (p : Int), A.all leg = true → (p :: tos A).getLast (List.cons_ne_nil _ _) = endP p A
  | [], p, _ => rfl
  | d :: A, p, h => by
    simp only [List.all_cons, Bool.and_eq_true] at h
    obtain ⟨i, ⟨rfl, hi⟩ | ⟨rfl, hi⟩⟩ := leg_form h.1
    · rw [endP_to, ← last_tos A i h.2]
      simp [tos]
    · rw [endP_wait, ← last_tos A p h.2]
      simp [tos, wait_to]
theorem ixL_last {xs : List D} (h : xs ≠ []) : ixD (.lst xs) (.int (-1)) = some (xs.getLast h) := by
  have := ixD_last (xs := xs.dropLast) (d := xs.getLast h)
  rwa [List.dropLast_concat_getLast h] at this
theorem cut_take {xs : List D} {k : Nat} (h : k ≤ xs.length) : cutL xs none (some (k : Int)) = xs.take k := by
  unfold cutL
  rw [HT.sIx_none, HT.sIx_nat, Nat.min_eq_left h]
  simp
theorem all_take {A : List D} (h : A.all leg = true) (k : Nat) : (A.take k).all leg = true := by
  rw [List.all_eq_true] at h ⊢
  exact fun x hx => h x (List.mem_of_mem_take hx)
@[simp] theorem slD_t (xs : List D) (lo hi : Option Int) : slD (.tup xs) lo hi = some (.tup (cutL xs lo hi)) := by cases lo <;> cases hi <;> rfl
@[simp] theorem slD_l (xs : List D) (lo hi : Option Int) : slD (.lst xs) lo hi = some (.lst (cutL xs lo hi)) := by cases lo <;> cases hi <;> rfl
theorem place_ahead_ok (n k : Nat) (p : Int) (A : List D) (S : So) (hA : A.all leg = true) (hk : k ≤ A.length) (hl : A.length ≤ 6) : prg Ps gl (n + 1) i_place_ahead [.tup [.int p, .tup A], .int (k : Nat)] S = .ok (.int (spot p A k)) S := by
  rw [p_place_ahead, runD_ap rfl]
  have ht := all_take hA k
  have hlen : (A.take k).length ≤ 6 := by rw [List.length_take]; omega
  have c := cLoop_pure (own := [3, 4]) (st := asg ct_place_ahead_0) (c := evc (prg Ps gl n) gl cc_place_ahead_0) (x := ev (prg Ps gl n) gl ce_place_ahead_0) (ρ := [.sh (.tup [.int p, .tup A]), .sh (.int (k : Nat)), .no, .no, .no]) (s := S) (p := isTo) (g := numOf) (A.take k) [] (by simpa using lim_6 hlen) (fun d hd => by
    rw [List.all_eq_true] at ht
    obtain ⟨i, ⟨rfl, hi⟩ | ⟨rfl, hi⟩⟩ := leg_form (ht d hd)
    · exact ⟨[.sh (.tup [.int p, .tup A]), .sh (.int (k : Nat)), .no, .sh (.str sTo), .sh (.int i)], by simp [ct_place_ahead_0], by simp [wipeR], by simp [cc_place_ahead_0, eqD_str, ok_to, isTo], by simp [ce_place_ahead_0, numOf]⟩
    · exact ⟨[.sh (.tup [.int p, .tup A]), .sh (.int (k : Nat)), .no, .sh (.str sWait), .sh (.int i)], by simp [ct_place_ahead_0], by simp [wipeR], by simp [cc_place_ahead_0, eqD_str, ok_to, ok_wait, isTo], by simp [ce_place_ahead_0, numOf]⟩)
  rw [tos_eq _ ht] at c
  have e := ixL_last (xs := .int p :: (tos (A.take k)).map .int) (List.cons_ne_nil _ _)
  have e2 : (D.int p :: (tos (A.take k)).map D.int).getLast (List.cons_ne_nil _ _) = .int (spot p A k) := by
    have := last_tos (A.take k) p ht
    unfold spot
    rw [← this]
    have h3 : D.int p :: (tos (A.take k)).map D.int = (p :: tos (A.take k)).map D.int := rfl
    simp only [h3, List.getLast_map]
  rw [e2] at e
  have hlt : (tos (A.take k)).length ≤ 6 := by
    have := congrArg List.length (tos_eq _ ht)
    simp at this
    have h4 := List.length_filter_le isTo (A.take k)
    omega
  have a1 : binD .add (.lst [.int p]) (.lst ((tos (A.take k)).map .int)) = some (.lst (.int p :: (tos (A.take k)).map .int)) := add_l (by simp [lim]; omega)
  simp at c
  simp [d_place_ahead, cut_take hk, noOw, wipeR, backR, c, a1, e, lim]
/-- one leg more, if it is done -/
def stepF (w : Nat) (P : Fm) (p : Int) (A : List D) (row oth : List Fm) : List Fm :=
  match A[row.length - 1]? with
  | some (.tup [.str wd, .int i]) =>
    if wd == sTo then row ++ [wk w (row.getLastD (0, 0)) (absI (i - spot p A (row.length - 1)))]
    else if i < (oth.length : Int) then row ++ [if wrt P (row.getLastD (0, 0)) < wrt P (oth.getD i.toNat (0, 0)) then oth.getD i.toNat (0, 0) else row.getLastD (0, 0)]
    else row
  | _ => row
theorem last_map {row : List Fm} (h : row ≠ []) : ixD (.lst (row.map fD)) (.int (-1)) = some (fD (row.getLastD (0, 0))) := by
  have h' : row.map fD ≠ [] := by simpa using h
  rw [ixL_last h', List.getLast_map]
  congr 2
  cases row with
  | nil => exact (h rfl).elim
  | cons a l => rw [List.getLastD_cons, List.getLast_eq_getLastD]
theorem get_map {oth : List Fm} {i : Int} (h0 : 0 ≤ i) (h1 : i < (oth.length : Int)) : ixD (.lst (oth.map fD)) (.int i) = some (fD (oth.getD i.toNat (0, 0))) := by
  have hi : i.toNat < oth.length := by omega
  have := ixD_natL (xs := oth.map fD) (i := i.toNat) (d := fD (oth.getD i.toNat (0, 0))) (by rw [List.getElem?_map, List.getElem?_eq_getElem hi, List.getD_eq_getElem?_getD, List.getElem?_eq_getElem hi]; rfl)
  rwa [Int.toNat_of_nonneg h0] at this
theorem more_times_ok (n w : Nat) (P : Fm) (p : Int) (A : List D) (row oth : List Fm) (S : So) (hP : smF P) (hA : A.all leg = true) (hl : A.length ≤ 6) (hr : row ≠ []) (hr2 : row.length ≤ A.length + 1) (sr : ∀ f ∈ row, smF f) (so : ∀ f ∈ oth, smF f) :
    prg Ps gl (n + 2) i_more_times [.tup [.int p, .tup A], .int (w : Nat), .lst (row.map fD), .lst (oth.map fD), fD P] S = .ok (.lst ((stepF w P p A row oth).map fD)) S := by
  rw [p_more_times, runD_ap rfl]
  have h0 : 0 < row.length := List.length_pos_iff.mpr hr
  obtain ⟨k, hk⟩ : ∃ k, row.length = k + 1 := ⟨row.length - 1, by omega⟩
  have hlast := last_map hr
  have slast : smF (row.getLastD (0, 0)) := by
    refine sr _ ?_
    cases row with
    | nil => exact (hr rfl).elim
    | cons a l => rw [List.getLastD_cons, ← List.getLast_eq_getLastD]; exact List.getLast_mem (List.cons_ne_nil _ _)
  generalize hL : row.getLastD (0, 0) = L at hlast slast
  have ad : ∀ x : D, binD .add (.lst (row.map fD)) (.lst [x]) = some (.lst (row.map fD ++ [x])) := fun x => add_l (by simp [lim]; omega)
  by_cases hd : k = A.length
  · subst hd
    have e1 : A[A.length]? = none := by simp
    simp [d_more_times, hk, stepF, e1]
  · have hkl : k < A.length := by omega
    have hne : ((k : Int) == (A.length : Int)) = false := by rw [beq_eq_false_iff_ne]; omega
    have hg : A[k]? = some A[k] := List.getElem?_eq_getElem hkl
    have hx := ixD_nat hg
    have hm : leg A[k] = true := by rw [List.all_eq_true] at hA; exact hA _ (List.getElem_mem hkl)
    have pa := place_ahead_ok n k p A S hA (by omega) hl
    generalize A[k] = l at hg hx hm
    obtain ⟨i, ⟨rfl, hi⟩ | ⟨rfl, hi⟩⟩ := leg_form hm
    · have wo := walked_ok n w L (absI (i - spot p A k)) S
      have es : stepF w P p A row oth = row ++ [wk w L (absI (i - spot p A k))] := by
        unfold stepF
        rw [hk, Nat.add_sub_cancel, hg, hL]
        simp
      rw [es]
      simp [d_more_times, hk, hne, hx, eqD_str, ok_to, hlast, pa, wo, ad, lim]
    · by_cases ho : i < (oth.length : Int)
      · have hgo := get_map (oth := oth) (i := i) (by omega) ho
        have sgo : smF (oth.getD i.toNat (0, 0)) := by
          have hi' : i.toNat < oth.length := by omega
          rw [List.getD_eq_getElem?_getD, List.getElem?_eq_getElem hi']
          exact so _ (List.getElem_mem hi')
        have es : stepF w P p A row oth = row ++ [if wrt P L < wrt P (oth.getD i.toNat (0, 0)) then oth.getD i.toNat (0, 0) else L] := by
          unfold stepF
          rw [hk, Nat.add_sub_cancel, hg, hL]
          simp [wait_to, ho]
        generalize oth.getD i.toNat (0, 0) = O at hgo sgo es
        have w1 := worth_ok n P O S hP sgo
        have w2 := worth_ok n P L S hP slast
        rw [es]
        by_cases hw : wrt P L < wrt P O
        · simp [d_more_times, hk, hne, hx, eqD_str, ok_to, ok_wait, wait_to, ho, hlast, hgo, w1, w2, hw, ad, lim]
        · simp [d_more_times, hk, hne, hx, eqD_str, ok_to, ok_wait, wait_to, ho, hlast, hgo, w1, w2, hw, ad, lim]
      · have es : stepF w P p A row oth = row := by
          unfold stepF
          rw [hk, Nat.add_sub_cancel, hg]
          simp [wait_to, ho]
        rw [es]
        simp [d_more_times, hk, hne, hx, eqD_str, ok_to, ok_wait, wait_to, ho]
end Lw
end
section
set_option Elab.async false
set_option linter.all false
set_option maxRecDepth 100000
set_option maxHeartbeats 2000000
namespace Lw
open Pv PySem
section
variable (P : Fm) (p q : Int) (A B : List D)
def pass (x : List Fm × List Fm) : List Fm × List Fm :=
  let r := stepF 0 P p A x.1 x.2
  (r, stepF 1 P q B x.2 r)
def fixF : Nat → List Fm × List Fm → List Fm × List Fm
  | 0, x => x
  | n + 1, x => if (pass P p q A B x).1.length + (pass P p q A B x).2.length = x.1.length + x.2.length then pass P p q A B x else fixF n (pass P p q A B x)
/-- forms bounded by how many there are -/
def bdF (n : Nat) (f : Fm) : Prop := 0 ≤ f.1 ∧ f.1 ≤ 20 * (n : Int) ∧ 0 ≤ f.2 ∧ f.2 ≤ 20 * (n : Int)
structure Row (w : Nat) (p : Int) (A : List D) (row : List Fm) : Prop where
  ne : row ≠ []
  len : row.length ≤ A.length + 1
  z : row.head? = some (0, 0)
  turn : ∀ k, k + 1 < row.length → wrt P (row.getD k (0, 0)) ≤ wrt P (row.getD (k + 1) (0, 0)) ∧ (spot p A (k + 1) ≠ spot p A k → wrt P (row.getD (k + 1) (0, 0)) = wrt P (row.getD k (0, 0)) + absI (spot p A (k + 1) - spot p A k) * (if w = 0 then P.1 else P.2))
structure Inv2 (x : List Fm × List Fm) : Prop where
  one : Row P 0 p A x.1
  two : Row P 1 q B x.2
  bd1 : ∀ f ∈ x.1, bdF (x.1.length + x.2.length) f
  bd2 : ∀ f ∈ x.2, bdF (x.1.length + x.2.length) f
end
section
variable {P : Fm} {p q : Int} {A B : List D}
theorem bdF_mono {m n : Nat} (h : m ≤ n) {f : Fm} (b : bdF m f) : bdF n f := by
  unfold bdF at *
  omega
theorem bdF_sm {n : Nat} (h : n ≤ 100) {f : Fm} (b : bdF n f) : smF f := by
  unfold bdF at b
  unfold smF sm
  omega
theorem getLastD_mem {row : List Fm} (h : row ≠ []) : row.getLastD (0, 0) ∈ row := by
  cases row with
  | nil => exact (h rfl).elim
  | cons a l => rw [List.getLastD_cons, ← List.getLast_eq_getLastD]; exact List.getLast_mem (List.cons_ne_nil _ _)
theorem getLastD_get {row : List Fm} {k : Nat} (h : row.length = k + 1) : row.getLastD (0, 0) = row.getD k (0, 0) := by
  have hk : k < row.length := by omega
  cases row with
  | nil => simp at h
  | cons a l =>
    rw [List.getLastD_cons, ← List.getLast_eq_getLastD (List.cons_ne_nil _ _), List.getLast_eq_getElem, List.getD_eq_getElem?_getD, List.getElem?_eq_getElem hk]
    simp at h
    simp [h]
theorem endP_bd : ∀ (A : List D) (p : Int), A.all leg = true → 0 ≤ p → p ≤ 20 → 0 ≤ endP p A ∧ endP p A ≤ 20
  | [], p, _, h0, h1 => ⟨h0, h1⟩
  | d :: A, p, h, h0, h1 => by
    simp only [List.all_cons, Bool.and_eq_true] at h
    obtain ⟨i, ⟨rfl, hi⟩ | ⟨rfl, hi⟩⟩ := leg_form h.1
    · rw [endP_to]; exact endP_bd A i h.2 hi.1 hi.2
    · rw [endP_wait]; exact endP_bd A p h.2 h0 h1
theorem spot_bd (hA : A.all leg = true) (h0 : 0 ≤ p) (h1 : p ≤ 20) (k : Nat) : 0 ≤ spot p A k ∧ spot p A k ≤ 20 := endP_bd _ _ (all_take hA k) h0 h1
theorem spot_s (hA : A.all leg = true) {k : Nat} {d : D} (h : A[k]? = some d) : spot p A (k + 1) = endP (spot p A k) [d] := by
  unfold spot
  have hk : k < A.length := (List.getElem?_eq_some_iff.mp h).1
  have hd : A[k] = d := (List.getElem?_eq_some_iff.mp h).2
  rw [List.take_succ_eq_append_getElem hk, hd, endP_app _ _ _ (all_take hA k)]
theorem spot_to (hA : A.all leg = true) {k : Nat} {i : Int} (h : A[k]? = some (.tup [.str sTo, .int i])) : spot p A (k + 1) = i := by
  rw [spot_s hA h, endP_to]; rfl
theorem spot_wait (hA : A.all leg = true) {k : Nat} {i : Int} (h : A[k]? = some (.tup [.str sWait, .int i])) : spot p A (k + 1) = spot p A k := by
  rw [spot_s hA h, endP_wait]; rfl
theorem wrt_wk (P : Fm) (w : Nat) (f : Fm) (k : Int) : wrt P (wk w f k) = wrt P f + k * (if w = 0 then P.1 else P.2) := by
  unfold wrt wk
  split
  · simp only [Int.add_mul]; omega
  · simp only [Int.add_mul]; omega
/-- what a step does -/
theorem step_cases (w : Nat) (P : Fm) (hP : 0 ≤ P.1 ∧ 0 ≤ P.2) (hA : A.all leg = true) (hp : 0 ≤ p ∧ p ≤ 20) {row oth : List Fm} {n : Nat} (r : Row P w p A row) (b1 : ∀ f ∈ row, bdF n f) (b2 : ∀ f ∈ oth, bdF n f) :
    (stepF w P p A row oth = row ∨ oth = []) ∨ (∃ f, stepF w P p A row oth = row ++ [f] ∧ bdF (n + 1) f ∧ Row P w p A (row ++ [f])) := by
  by_cases ho0 : oth = []
  · exact .inl (.inr ho0)
  have ho1 : 0 < oth.length := List.length_pos_iff.mpr ho0
  obtain ⟨k, hk⟩ : ∃ k, row.length = k + 1 := ⟨row.length - 1, by have := List.length_pos_iff.mpr r.ne; omega⟩
  have hL := getLastD_get hk
  have bL := b1 _ (getLastD_mem r.ne)
  have key : ∀ (f : Fm), k < A.length → wrt P (row.getD k (0, 0)) ≤ wrt P f → (spot p A (k + 1) ≠ spot p A k → wrt P f = wrt P (row.getD k (0, 0)) + absI (spot p A (k + 1) - spot p A k) * (if w = 0 then P.1 else P.2)) → Row P w p A (row ++ [f]) := by
    intro f hkA h1 h2
    refine ⟨by simp, by rw [List.length_append, List.length_singleton]; omega, ?_, fun j hj => ?_⟩
    · have := r.z
      cases row with
      | nil => cases this
      | cons a l => simpa using this
    · rw [List.length_append, List.length_singleton, hk] at hj
      have e1 : (row ++ [f]).getD j (0, 0) = row.getD j (0, 0) := by
        rw [List.getD_eq_getElem?_getD, List.getD_eq_getElem?_getD, List.getElem?_append_left (by omega)]
      by_cases hjk : j = k
      · subst hjk
        have e2 : (row ++ [f]).getD (j + 1) (0, 0) = f := by
          rw [List.getD_eq_getElem?_getD, List.getElem?_append_right (by omega)]
          simp [hk]
        rw [e1, e2]
        exact ⟨h1, h2⟩
      · have e2 : (row ++ [f]).getD (j + 1) (0, 0) = row.getD (j + 1) (0, 0) := by
          rw [List.getD_eq_getElem?_getD, List.getD_eq_getElem?_getD, List.getElem?_append_left (by omega)]
        rw [e1, e2]
        exact r.turn j (by omega)
  cases hg : A[k]? with
  | none =>
    refine .inl (.inl ?_)
    unfold stepF; rw [hk, Nat.add_sub_cancel, hg]
  | some l =>
    have hkA : k < A.length := (List.getElem?_eq_some_iff.mp hg).1
    have hm : leg l = true := by rw [List.all_eq_true] at hA; exact hA _ (List.mem_of_getElem? hg)
    obtain ⟨i, ⟨rfl, hi⟩ | ⟨rfl, hi⟩⟩ := leg_form hm
    · refine .inr ⟨wk w (row.getLastD (0, 0)) (absI (i - spot p A k)), ?_, ?_, ?_⟩
      · unfold stepF; rw [hk, Nat.add_sub_cancel, hg]; simp
      · have hs := spot_bd (p := p) hA hp.1 hp.2 k
        have ha : 0 ≤ absI (i - spot p A k) ∧ absI (i - spot p A k) ≤ 20 := by unfold absI; split <;> omega
        unfold bdF wk at *
        split <;> simp only <;> omega
      · rw [hL]
        refine key _ hkA ?_ fun _ => ?_
        · rw [wrt_wk]
          have ha : 0 ≤ absI (i - spot p A k) := by unfold absI; split <;> omega
          have : 0 ≤ absI (i - spot p A k) * (if w = 0 then P.1 else P.2) := Int.mul_nonneg ha (by split; exact hP.1; exact hP.2)
          omega
        · rw [wrt_wk, spot_to hA hg]
    · have es := spot_wait (p := p) hA hg
      by_cases ho : i < (oth.length : Int)
      · refine .inr ⟨if wrt P (row.getLastD (0, 0)) < wrt P (oth.getD i.toNat (0, 0)) then oth.getD i.toNat (0, 0) else row.getLastD (0, 0), ?_, ?_, ?_⟩
        · unfold stepF; rw [hk, Nat.add_sub_cancel, hg]; simp [wait_to, ho]
        · have hi' : i.toNat < oth.length := by omega
          have bo : bdF n (oth.getD i.toNat (0, 0)) := by
            rw [List.getD_eq_getElem?_getD, List.getElem?_eq_getElem hi']
            exact b2 _ (List.getElem_mem hi')
          split
          · exact bdF_mono (by omega) bo
          · exact bdF_mono (by omega) bL
        · rw [hL]
          refine key _ hkA ?_ fun h => (h es).elim
          split <;> omega
      · refine .inl (.inl ?_)
        unfold stepF; rw [hk, Nat.add_sub_cancel, hg]; simp [wait_to, ho]
/-- what a step keeps -/
theorem step_inv (w : Nat) (P : Fm) (hP : 0 ≤ P.1 ∧ 0 ≤ P.2) (hA : A.all leg = true) (hp : 0 ≤ p ∧ p ≤ 20) {row oth : List Fm} {n : Nat} (r : Row P w p A row) (hn : oth ≠ []) (b1 : ∀ f ∈ row, bdF (row.length + n) f) (b2 : ∀ f ∈ oth, bdF (row.length + n) f) :
    Row P w p A (stepF w P p A row oth) ∧ (∀ f ∈ stepF w P p A row oth, bdF ((stepF w P p A row oth).length + n) f) ∧ (∀ f ∈ oth, bdF ((stepF w P p A row oth).length + n) f) ∧ row.length ≤ (stepF w P p A row oth).length ∧ ((stepF w P p A row oth).length = row.length → stepF w P p A row oth = row) := by
  rcases step_cases w P hP hA hp r b1 b2 with (e | e) | ⟨f, e, bf, rf⟩
  · rw [e]; exact ⟨r, b1, b2, Nat.le_refl _, fun _ => rfl⟩
  · exact (hn e).elim
  · rw [e]
    have hl : (row ++ [f]).length = row.length + 1 := by simp
    refine ⟨rf, fun g hg => ?_, fun g hg => bdF_mono (by omega) (b2 g hg), by omega, fun h => by omega⟩
    rcases List.mem_append.mp hg with h | h
    · exact bdF_mono (by omega) (b1 g h)
    · rw [List.mem_singleton] at h; subst h; exact bdF_mono (by omega) bf
theorem pass_inv (hP : 0 ≤ P.1 ∧ 0 ≤ P.2) (hA : A.all leg = true) (hp : 0 ≤ p ∧ p ≤ 20) (hB : B.all leg = true) (hq : 0 ≤ q ∧ q ≤ 20) {x : List Fm × List Fm} (I : Inv2 P p q A B x) :
    Inv2 P p q A B (pass P p q A B x) ∧ x.1.length ≤ (pass P p q A B x).1.length ∧ x.2.length ≤ (pass P p q A B x).2.length := by
  have s1 := step_inv 0 P hP hA hp I.one I.two.ne I.bd1 I.bd2
  have s2 := step_inv 1 P hP hB hq (row := x.2) (oth := stepF 0 P p A x.1 x.2) (n := (stepF 0 P p A x.1 x.2).length) I.two s1.1.ne (fun f hf => by rw [Nat.add_comm]; exact s1.2.2.1 f hf) (fun f hf => by rw [Nat.add_comm]; exact s1.2.1 f hf)
  refine ⟨⟨s1.1, s2.1, fun f hf => ?_, fun f hf => ?_⟩, s1.2.2.2.1, s2.2.2.2.1⟩
  · have := s2.2.2.1 f hf; rwa [Nat.add_comm] at this
  · have := s2.2.1 f hf; rwa [Nat.add_comm] at this
theorem fix_inv (hP : 0 ≤ P.1 ∧ 0 ≤ P.2) (hA : A.all leg = true) (hp : 0 ≤ p ∧ p ≤ 20) (hB : B.all leg = true) (hq : 0 ≤ q ∧ q ≤ 20) : ∀ (n : Nat) {x : List Fm × List Fm}, Inv2 P p q A B x → Inv2 P p q A B (fixF P p q A B n x)
  | 0, x, I => I
  | n + 1, x, I => by
    unfold fixF
    have h := (pass_inv hP hA hp hB hq I).1
    split
    · exact h
    · exact fix_inv hP hA hp hB hq n h
theorem inv0 : Inv2 P p q A B ([(0, 0)], [(0, 0)]) := by
  refine ⟨⟨by simp, by simp, rfl, fun k h => by simp at h⟩, ⟨by simp, by simp, rfl, fun k h => by simp at h⟩, fun f hf => ?_, fun f hf => ?_⟩
  · simp at hf; subst hf; unfold bdF; simp
  · simp at hf; subst hf; unfold bdF; simp
/-- the rows of forms, at last -/
def rows (P : Fm) (p q : Int) (A B : List D) : List Fm × List Fm := fixF P p q A B 20 ([(0, 0)], [(0, 0)])
def pairD (p q : Int) (A B : List D) : D := .tup [.tup [.int p, .tup A], .tup [.int q, .tup B]]
theorem times_loop (n : Nat) (S : So) (hsP : smF P) (hP : 0 ≤ P.1 ∧ 0 ≤ P.2) (hA : A.all leg = true) (hp : 0 ≤ p ∧ p ≤ 20) (hB : B.all leg = true) (hq : 0 ≤ q ∧ q ≤ 20) (lA : A.length ≤ 6) (lB : B.length ≤ 6) : ∀ (m k : Nat) (x : List Fm × List Fm) (y : Sl), Inv2 P p q A B x → A.length + B.length + 2 < m + (x.1.length + x.2.length) → m ≤ k →
    ∃ ρ', wLoop (tst (ev (prg Ps gl (n + 2)) gl lc_times_at_0)) (exs (prg Ps gl (n + 2)) gl lb_times_at_0) k [.sh (pairD p q A B), .sh (fD P), .sh (.lst (x.1.map fD)), .sh (.lst (x.2.map fD)), y] S = .ok (.rt (.lst [.lst ((fixF P p q A B m x).1.map fD), .lst ((fixF P p q A B m x).2.map fD)])) ρ' S
  | 0, k, x, y, I, h, _ => by have := I.one.len; have := I.two.len; omega
  | m + 1, k, x, y, I, h, hk => by
    obtain ⟨k, rfl⟩ : ∃ j, k = j + 1 := ⟨k - 1, by omega⟩
    have pi := pass_inv hP hA hp hB hq I
    have l1 := I.one.len
    have l2 := I.two.len
    have l3 := pi.1.one.len
    have l4 := pi.1.two.len
    have w1 := more_times_ok n 0 P p A x.1 x.2 S hsP hA lA I.one.ne l1 (fun f hf => bdF_sm (by omega) (I.bd1 f hf)) (fun f hf => bdF_sm (by omega) (I.bd2 f hf))
    have w2 := more_times_ok n 1 P q B x.2 (pass P p q A B x).1 S hsP hB lB I.two.ne l2 (fun f hf => bdF_sm (by omega) (I.bd2 f hf)) (fun f hf => bdF_sm (by omega) (pi.1.bd1 f hf))
    have e1 : stepF 0 P p A x.1 x.2 = (pass P p q A B x).1 := rfl
    have e2 : stepF 1 P q B x.2 (pass P p q A B x).1 = (pass P p q A B x).2 := rfl
    rw [e1] at w1
    rw [e2] at w2
    simp at w1 w2
    by_cases hs : (pass P p q A B x).1.length + (pass P p q A B x).2.length = x.1.length + x.2.length
    · have ef : fixF P p q A B (m + 1) x = pass P p q A B x := by rw [fixF, if_pos hs]
      rw [ef]
      have hs' : (((pass P p q A B x).1.length : Int) + ((pass P p q A B x).2.length : Int) == (x.1.length : Int) + (x.2.length : Int)) = true := by rw [beq_iff_eq]; omega
      generalize pass P p q A B x = z at *
      exact ⟨_, by simp [wloop_succ, lc_times_at_0, lb_times_at_0, pairD, w1, w2, hs', lim]; rfl⟩
    · have ef : fixF P p q A B (m + 1) x = fixF P p q A B m (pass P p q A B x) := by rw [fixF, if_neg hs]
      rw [ef]
      obtain ⟨ρ', ih⟩ := times_loop n S hsP hP hA hp hB hq lA lB m k (pass P p q A B x) (.sh (.int ((x.1.length : Int) + (x.2.length : Int)))) pi.1 (by omega) (by omega)
      have hs' : (((pass P p q A B x).1.length : Int) + ((pass P p q A B x).2.length : Int) == (x.1.length : Int) + (x.2.length : Int)) = false := by rw [beq_eq_false_iff_ne]; omega
      generalize fixF P p q A B m (pass P p q A B x) = u at *
      generalize pass P p q A B x = z at *
      refine ⟨ρ', ?_⟩
      simp [lc_times_at_0, lb_times_at_0, pairD] at ih
      simp [wloop_succ, lc_times_at_0, lb_times_at_0, pairD, w1, w2, hs', ih]
theorem times_at_ok (n : Nat) (S : So) (hsP : smF P) (hP : 0 ≤ P.1 ∧ 0 ≤ P.2) (hA : A.all leg = true) (hp : 0 ≤ p ∧ p ≤ 20) (hB : B.all leg = true) (hq : 0 ≤ q ∧ q ≤ 20) (lA : A.length ≤ 6) (lB : B.length ≤ 6) :
    prg Ps gl (n + 3) i_times_at [pairD p q A B, fD P] S = .ok (.lst [.lst ((rows P p q A B).1.map fD), .lst ((rows P p q A B).2.map fD)]) S := by
  rw [p_times_at, runD_ap rfl]
  obtain ⟨ρ', e⟩ := times_loop n S hsP hP hA hp hB hq lA lB 20 1000000 ([(0, 0)], [(0, 0)]) .no inv0 (by simp; omega) (by omega)
  have e0 : fixF P p q A B 20 ([(0, 0)], [(0, 0)]) = rows P p q A B := rfl
  rw [e0] at e
  generalize rows P p q A B = z at *
  simp [fD] at e
  simp [d_times_at, lim, fD, e]
theorem rows_inv (hP : 0 ≤ P.1 ∧ 0 ≤ P.2) (hA : A.all leg = true) (hp : 0 ≤ p ∧ p ≤ 20) (hB : B.all leg = true) (hq : 0 ≤ q ∧ q ≤ 20) : Inv2 P p q A B (rows P p q A B) := fix_inv hP hA hp hB hq 20 inv0
end
end Lw
end
section
set_option Elab.async false
set_option linter.all false
set_option maxRecDepth 100000
set_option maxHeartbeats 2000000
namespace Lw
open Pv PySem
def wD (P f : Fm) : D := .int (wrt P f)
theorem spots_len (p : Int) (A : List D) : (p :: spotsT p A).length = A.length + 1 := by rw [List.length_cons, spotsT_len]
theorem spots_spot : ∀ (A : List D) (p : Int) (k : Nat), A.all leg = true → k ≤ A.length → (p :: spotsT p A)[k]? = some (spot p A k)
  | A, p, 0, _, _ => by simp [spot, endP]
  | [], p, k + 1, _, h => by simp at h
  | d :: A, p, k + 1, h, hk => by
    simp only [List.all_cons, Bool.and_eq_true] at h
    rw [List.length_cons] at hk
    obtain ⟨i, ⟨rfl, hi⟩ | ⟨rfl, hi⟩⟩ := leg_form h.1
    · have e : spotsT p (.tup [.str sTo, .int i] :: A) = i :: spotsT i A := by simp [spotsT]
      rw [e, List.getElem?_cons_succ, spots_spot A i k h.2 (by omega)]
      simp [spot, endP_to]
    · have e : spotsT p (.tup [.str sWait, .int i] :: A) = p :: spotsT p A := by simp [spotsT, wait_to]
      rw [e, List.getElem?_cons_succ, spots_spot A p k h.2 (by omega)]
      simp [spot, endP_wait]
theorem spots_at (p : Int) (A : List D) (k : Nat) (hA : A.all leg = true) (hk : k ≤ A.length) : ixD (.lst (.int p :: (spotsT p A).map .int)) (.int (k : Nat)) = some (.int (spot p A k)) := by
  refine ixD_natL (xs := (p :: spotsT p A).map D.int) ?_
  rw [List.getElem?_map, spots_spot A p k hA hk]
  rfl
theorem last_wD {P : Fm} {row : List Fm} (h : row ≠ []) : ixD (.lst (row.map (wD P))) (.int (-1)) = some (.int (wrt P (row.getLastD (0, 0)))) := by
  have h' : row.map (wD P) ≠ [] := by simpa using h
  rw [ixL_last h', List.getLast_map]
  congr 2
  cases row with
  | nil => exact (h rfl).elim
  | cons a l => rw [List.getLastD_cons, List.getLast_eq_getLastD]
theorem get_wD {P : Fm} {oth : List Fm} {i : Int} (h0 : 0 ≤ i) (h1 : i < (oth.length : Int)) : ixD (.lst (oth.map (wD P))) (.int i) = some (.int (wrt P (oth.getD i.toNat (0, 0)))) := by
  have hi : i.toNat < oth.length := by omega
  have := ixD_natL (xs := oth.map (wD P)) (i := i.toNat) (d := wD P (oth.getD i.toNat (0, 0))) (by rw [List.getElem?_map, List.getElem?_eq_getElem hi, List.getD_eq_getElem?_getD, List.getElem?_eq_getElem hi]; rfl)
  rwa [Int.toNat_of_nonneg h0] at this
theorem absI_sm {i j : Int} (a : 0 ≤ i) (b : i ≤ 20) (c : 0 ≤ j) (d : j ≤ 20) : sm (absI (i - j)) := by
  unfold absI sm
  split <;> omega
theorem half0 (n : Nat) (P : Fm) (p : Int) (q : D) (A : List D) (S : So) (m : Bool) (xs ys : List Fm) (x5 x6 x7 x8 x9 x10 : Sl) (hP : smF P) (hp : 0 ≤ p ∧ p ≤ 20) (hA : A.all leg = true) (lA : A.length ≤ 6) (nx : xs ≠ []) (lx : xs.length ≤ A.length + 1) :
    ∃ (y5 y6 y7 y8 y9 y10 : Sl), exs (prg Ps gl (n + 1)) gl lb__law_clock_1 [.sh (.tup [.tup [.int p, .tup A], q]), .sh (fD P), .ow [.lst (xs.map (wD P)), .lst (ys.map (wD P))], .sh (.bl m), .sh (.int 0), x5, x6, x7, x8, x9, x10] S = .ok .nx [.sh (.tup [.tup [.int p, .tup A], q]), .sh (fD P), .ow [.lst ((stepF 0 P p A xs ys).map (wD P)), .lst (ys.map (wD P))], .sh (.bl (m || decide ((stepF 0 P p A xs ys).length ≠ xs.length))), .sh (.int 0), y5, y6, y7, y8, y9, y10] S := by
  obtain ⟨k, hk⟩ : ∃ k, xs.length = k + 1 := ⟨xs.length - 1, by have := List.length_pos_iff.mpr nx; omega⟩
  have hlast := last_wD (P := P) nx
  generalize hL : xs.getLastD (0, 0) = L at hlast
  have ad : ∀ x : D, binD .add (.lst (xs.map (wD P))) (.lst [x]) = some (.lst (xs.map (wD P) ++ [x])) := fun x => add_l (by simp [lim]; omega)
  cases hg : A[k]? with
  | none =>
    have hkA : A.length ≤ k := List.getElem?_eq_none_iff.mp hg
    have nk : ¬ k < A.length := by omega
    have es : stepF 0 P p A xs ys = xs := by unfold stepF; rw [hk, Nat.add_sub_cancel, hg]
    refine ⟨.sh (.int (k : Nat)), x6, x7, x8, x9, x10, ?_⟩
    rw [es]
    simp [lb__law_clock_1, hk, nk]
  | some l =>
    have ha : k < A.length := (List.getElem?_eq_some_iff.mp hg).1
    have hx := ixD_nat hg
    have hm : leg l = true := by rw [List.all_eq_true] at hA; exact hA _ (List.mem_of_getElem? hg)
    obtain ⟨i, ⟨rfl, hi⟩ | ⟨rfl, hi⟩⟩ := leg_form hm
    · have hs := spots_at p A k hA (by omega)
      have sb := spot_bd (p := p) hA hp.1 hp.2 k
      have ws := spots_ok n p A S hA (by omega)
      have om := okMul_sm (absI_sm hi.1 hi.2 sb.1 sb.2) hP.1
      simp at ws
      have es : stepF 0 P p A xs ys = xs ++ [wk 0 L (absI (i - spot p A k))] := by
        unfold stepF; rw [hk, Nat.add_sub_cancel, hg, hL]; simp
      have ew := wrt_wk P 0 L (absI (i - spot p A k))
      simp at ew
      refine ⟨.sh (.int (k : Nat)), .sh (.str sTo), .sh (.int i), .sh (.int (wrt P L)), .sh (.lst (ys.map (wD P))), .sh (.int (absI (i - spot p A k))), ?_⟩
      rw [es]
      simp [lb__law_clock_1, hk, ha, hx, eqD_str, ok_to, hlast, ws, hs, om, ad, lim, fD, wD, ew]
    · by_cases hb : i < (ys.length : Int)
      · have hgo := get_wD (P := P) (oth := ys) (i := i) (by omega) hb
        have es : stepF 0 P p A xs ys = xs ++ [if wrt P L < wrt P (ys.getD i.toNat (0, 0)) then ys.getD i.toNat (0, 0) else L] := by
          unfold stepF; rw [hk, Nat.add_sub_cancel, hg, hL]; simp [wait_to, hb]
        generalize ys.getD i.toNat (0, 0) = O at hgo es
        have ew : wrt P (if wrt P L < wrt P O then O else L) = if wrt P L < wrt P O then wrt P O else wrt P L := by split <;> rfl
        refine ⟨.sh (.int (k : Nat)), .sh (.str sWait), .sh (.int i), .sh (.int (wrt P L)), .sh (.lst (ys.map (wD P))), x10, ?_⟩
        rw [es]
        simp [lb__law_clock_1, hk, ha, hx, eqD_str, ok_to, ok_wait, wait_to, hlast, hgo, hb, ad, lim, wD, ew]
      · have es : stepF 0 P p A xs ys = xs := by unfold stepF; rw [hk, Nat.add_sub_cancel, hg]; simp [wait_to, hb]
        refine ⟨.sh (.int (k : Nat)), .sh (.str sWait), .sh (.int i), .sh (.int (wrt P L)), .sh (.lst (ys.map (wD P))), x10, ?_⟩
        rw [es]
        simp [lb__law_clock_1, hk, ha, hx, eqD_str, ok_to, ok_wait, wait_to, hlast, hb]
theorem half1 (n : Nat) (P : Fm) (p : Int) (q : D) (A : List D) (S : So) (m : Bool) (xs ys : List Fm) (x5 x6 x7 x8 x9 x10 : Sl) (hP : smF P) (hp : 0 ≤ p ∧ p ≤ 20) (hA : A.all leg = true) (lA : A.length ≤ 6) (nx : xs ≠ []) (lx : xs.length ≤ A.length + 1) :
    ∃ (y5 y6 y7 y8 y9 y10 : Sl), exs (prg Ps gl (n + 1)) gl lb__law_clock_1 [.sh (.tup [q, .tup [.int p, .tup A]]), .sh (fD P), .ow [.lst (ys.map (wD P)), .lst (xs.map (wD P))], .sh (.bl m), .sh (.int 1), x5, x6, x7, x8, x9, x10] S = .ok .nx [.sh (.tup [q, .tup [.int p, .tup A]]), .sh (fD P), .ow [.lst (ys.map (wD P)), .lst ((stepF 1 P p A xs ys).map (wD P))], .sh (.bl (m || decide ((stepF 1 P p A xs ys).length ≠ xs.length))), .sh (.int 1), y5, y6, y7, y8, y9, y10] S := by
  obtain ⟨k, hk⟩ : ∃ k, xs.length = k + 1 := ⟨xs.length - 1, by have := List.length_pos_iff.mpr nx; omega⟩
  have hlast := last_wD (P := P) nx
  generalize hL : xs.getLastD (0, 0) = L at hlast
  have ad : ∀ x : D, binD .add (.lst (xs.map (wD P))) (.lst [x]) = some (.lst (xs.map (wD P) ++ [x])) := fun x => add_l (by simp [lim]; omega)
  cases hg : A[k]? with
  | none =>
    have hkA : A.length ≤ k := List.getElem?_eq_none_iff.mp hg
    have nk : ¬ k < A.length := by omega
    have es : stepF 1 P p A xs ys = xs := by unfold stepF; rw [hk, Nat.add_sub_cancel, hg]
    refine ⟨.sh (.int (k : Nat)), x6, x7, x8, x9, x10, ?_⟩
    rw [es]
    simp [lb__law_clock_1, hk, nk]
  | some l =>
    have ha : k < A.length := (List.getElem?_eq_some_iff.mp hg).1
    have hx := ixD_nat hg
    have hm : leg l = true := by rw [List.all_eq_true] at hA; exact hA _ (List.mem_of_getElem? hg)
    obtain ⟨i, ⟨rfl, hi⟩ | ⟨rfl, hi⟩⟩ := leg_form hm
    · have hs := spots_at p A k hA (by omega)
      have sb := spot_bd (p := p) hA hp.1 hp.2 k
      have ws := spots_ok n p A S hA (by omega)
      have om := okMul_sm (absI_sm hi.1 hi.2 sb.1 sb.2) hP.2
      simp at ws
      have es : stepF 1 P p A xs ys = xs ++ [wk 1 L (absI (i - spot p A k))] := by
        unfold stepF; rw [hk, Nat.add_sub_cancel, hg, hL]; simp
      have ew := wrt_wk P 1 L (absI (i - spot p A k))
      simp at ew
      refine ⟨.sh (.int (k : Nat)), .sh (.str sTo), .sh (.int i), .sh (.int (wrt P L)), .sh (.lst (ys.map (wD P))), .sh (.int (absI (i - spot p A k))), ?_⟩
      rw [es]
      simp [lb__law_clock_1, hk, ha, hx, eqD_str, ok_to, hlast, ws, hs, om, ad, lim, fD, wD, ew]
    · by_cases hb : i < (ys.length : Int)
      · have hgo := get_wD (P := P) (oth := ys) (i := i) (by omega) hb
        have es : stepF 1 P p A xs ys = xs ++ [if wrt P L < wrt P (ys.getD i.toNat (0, 0)) then ys.getD i.toNat (0, 0) else L] := by
          unfold stepF; rw [hk, Nat.add_sub_cancel, hg, hL]; simp [wait_to, hb]
        generalize ys.getD i.toNat (0, 0) = O at hgo es
        have ew : wrt P (if wrt P L < wrt P O then O else L) = if wrt P L < wrt P O then wrt P O else wrt P L := by split <;> rfl
        refine ⟨.sh (.int (k : Nat)), .sh (.str sWait), .sh (.int i), .sh (.int (wrt P L)), .sh (.lst (ys.map (wD P))), x10, ?_⟩
        rw [es]
        simp [lb__law_clock_1, hk, ha, hx, eqD_str, ok_to, ok_wait, wait_to, hlast, hgo, hb, ad, lim, wD, ew]
      · have es : stepF 1 P p A xs ys = xs := by unfold stepF; rw [hk, Nat.add_sub_cancel, hg]; simp [wait_to, hb]
        refine ⟨.sh (.int (k : Nat)), .sh (.str sWait), .sh (.int i), .sh (.int (wrt P L)), .sh (.lst (ys.map (wD P))), x10, ?_⟩
        rw [es]
        simp [lb__law_clock_1, hk, ha, hx, eqD_str, ok_to, ok_wait, wait_to, hlast, hb]
theorem clock_loop (n : Nat) (P : Fm) (p q : Int) (A B : List D) (S : So) (hsP : smF P) (hP : 0 ≤ P.1 ∧ 0 ≤ P.2) (hA : A.all leg = true) (hp : 0 ≤ p ∧ p ≤ 20) (hB : B.all leg = true) (hq : 0 ≤ q ∧ q ≤ 20) (lA : A.length ≤ 6) (lB : B.length ≤ 6) : ∀ (m k : Nat) (x : List Fm × List Fm) (x4 x5 x6 x7 x8 x9 x10 : Sl), Inv2 P p q A B x → A.length + B.length + 2 < m + (x.1.length + x.2.length) → m + 1 ≤ k →
    ∃ ρ', wLoop (tst (ev (prg Ps gl (n + 1)) gl lc__law_clock_0)) (exs (prg Ps gl (n + 1)) gl lb__law_clock_0) k [.sh (pairD p q A B), .sh (fD P), .ow [.lst (x.1.map (wD P)), .lst (x.2.map (wD P))], .sh (.bl true), x4, x5, x6, x7, x8, x9, x10] S = .ok .nx (.sh (pairD p q A B) :: .sh (fD P) :: .ow [.lst ((fixF P p q A B m x).1.map (wD P)), .lst ((fixF P p q A B m x).2.map (wD P))] :: ρ') S
  | 0, k, x, x4, x5, x6, x7, x8, x9, x10, I, h, _ => by have := I.one.len; have := I.two.len; omega
  | m + 1, k, x, x4, x5, x6, x7, x8, x9, x10, I, h, hk => by
    obtain ⟨k, rfl⟩ : ∃ j, k = j + 2 := ⟨k - 2, by omega⟩
    have pi := pass_inv hP hA hp hB hq I
    obtain ⟨y5, y6, y7, y8, y9, y10, q1⟩ := half0 n P p (.tup [.int q, .tup B]) A S false x.1 x.2 x5 x6 x7 x8 x9 x10 hsP hp hA lA I.one.ne I.one.len
    have e1 : stepF 0 P p A x.1 x.2 = (pass P p q A B x).1 := rfl
    rw [e1] at q1
    generalize hc : (false || decide ((pass P p q A B x).1.length ≠ x.1.length)) = c at q1
    obtain ⟨z5, z6, z7, z8, z9, z10, q2⟩ := half1 n P q (.tup [.int p, .tup A]) B S c x.2 (pass P p q A B x).1 y5 y6 y7 y8 y9 y10 hsP hq hB lB I.two.ne I.two.len
    have e2 : stepF 1 P q B x.2 (pass P p q A B x).1 = (pass P p q A B x).2 := rfl
    rw [e2] at q2
    by_cases hs : (pass P p q A B x).1.length + (pass P p q A B x).2.length = x.1.length + x.2.length
    · have ef : fixF P p q A B (m + 1) x = pass P p q A B x := by rw [fixF, if_pos hs]
      have h1 : (pass P p q A B x).1.length = x.1.length := by have := pi.2.1; have := pi.2.2; omega
      have h2 : (pass P p q A B x).2.length = x.2.length := by have := pi.2.1; have := pi.2.2; omega
      rw [ef]
      have d : (c || decide ((pass P p q A B x).2.length ≠ x.2.length)) = false := by rw [← hc]; simp [h1, h2]
      rw [d] at q2
      generalize pass P p q A B x = u at *
      refine ⟨[.sh (.bl false), .sh (.int 1), z5, z6, z7, z8, z9, z10], ?_⟩
      simp [wloop_succ, lc__law_clock_0, lb__law_clock_0, lim, floop_cons, lt__law_clock_1, pairD, bind_eq q1, bind_eq q2]
    · have ef : fixF P p q A B (m + 1) x = fixF P p q A B m (pass P p q A B x) := by rw [fixF, if_neg hs]
      rw [ef]
      obtain ⟨ρ', ih⟩ := clock_loop n P p q A B S hsP hP hA hp hB hq lA lB m (k + 1) (pass P p q A B x) (.sh (.int 1)) z5 z6 z7 z8 z9 z10 pi.1 (by have := pi.2.1; have := pi.2.2; omega) (by omega)
      have d : (c || decide ((pass P p q A B x).2.length ≠ x.2.length)) = true := by
        rw [← hc]
        have := pi.2.1
        have := pi.2.2
        by_cases h1 : (pass P p q A B x).1.length = x.1.length
        · have h2 : (pass P p q A B x).2.length ≠ x.2.length := by omega
          simp [h2]
        · simp [h1]
      rw [d] at q2
      generalize fixF P p q A B m (pass P p q A B x) = v at *
      generalize pass P p q A B x = u at *
      refine ⟨ρ', ?_⟩
      rw [wloop_succ]
      simp [lc__law_clock_0, lb__law_clock_0, lim, floop_cons, lt__law_clock_1, pairD] at ih
      simp [lc__law_clock_0, lb__law_clock_0, lim, floop_cons, lt__law_clock_1, pairD, bind_eq q1, bind_eq q2, ih]
theorem clock_ok (n : Nat) (P : Fm) (p q : Int) (A B : List D) (S : So) (hsP : smF P) (hP : 0 ≤ P.1 ∧ 0 ≤ P.2) (hA : A.all leg = true) (hp : 0 ≤ p ∧ p ≤ 20) (hB : B.all leg = true) (hq : 0 ≤ q ∧ q ≤ 20) (lA : A.length ≤ 6) (lB : B.length ≤ 6) :
    prg Ps gl (n + 2) i__law_clock [pairD p q A B, fD P] S = .ok (.lst [.lst ((rows P p q A B).1.map (wD P)), .lst ((rows P p q A B).2.map (wD P))]) S := by
  obtain ⟨ρ', e⟩ := clock_loop n P p q A B S hsP hP hA hp hB hq lA lB 20 1000000 ([(0, 0)], [(0, 0)]) .no .no .no .no .no .no .no inv0 (by simp; omega) (by omega)
  have e0 : fixF P p q A B 20 ([(0, 0)], [(0, 0)]) = rows P p q A B := rfl
  rw [e0] at e
  generalize rows P p q A B = z at *
  have w0 : wD P (0, 0) = .int 0 := by simp [wD, wrt]
  simp [w0] at e
  rw [p__law_clock, runD_ap rfl]
  simp [d__law_clock, lim, e]
end Lw
end
section
set_option Elab.async false
set_option linter.all false
set_option maxRecDepth 100000
set_option maxHeartbeats 2000000
namespace Lw
open Pv PySem
def sgn (i : Int) : Int := if 0 < i then 1 else if i < 0 then -1 else 0
def mvD (f g : Fm) (s way : Int) : D := .tup [fD f, fD g, .int s, .int way]
def endD (f : Fm) (s : Int) : D := .tup [fD f, .non, .int s, .int 0]
section
variable (p : Int) (A : List D)
def movesI : Nat → List Fm → List D
  | k, f :: g :: r => mvD f g (spot p A k) (sgn (spot p A (k + 1) - spot p A k)) :: movesI (k + 1) (g :: r)
  | _, _ => []
def movesL : Nat → List Fm → List D
  | k, f :: g :: r => mvD f g (spot p A k) (sgn (spot p A (k + 1) - spot p A k)) :: movesL (k + 1) (g :: r)
  | k, [f] => [endD f (spot p A k)]
  | _, [] => []
/-- the place, times the pace, by forms -/
def topF (P : Fm) (pace time : Int) : Nat → List Fm → Int
  | k, f :: g :: r => if time < wrt P g then spot p A k * pace + sgn (spot p A (k + 1) - spot p A k) * (time - wrt P f) else topF P pace time (k + 1) (g :: r)
  | k, [f] => spot p A k * pace
  | _, [] => 0
/-- .. by numbers, as the law asks -/
def topI (pace time : Int) : Nat → List Int → Int
  | k, t :: u :: r => if t ≤ time ∧ time < u then spot p A k * pace + sgn (spot p A (k + 1) - spot p A k) * (time - t) else topI pace time (k + 1) (u :: r)
  | k, [t] => spot p A k * pace
  | _, [] => 0
end
section
variable {p : Int} {A : List D}
theorem movesL_eq : ∀ (row : List Fm) (k : Nat), row ≠ [] → movesL p A k row = movesI p A k row ++ [endD (row.getLastD (0, 0)) (spot p A (k + row.length - 1))]
  | [], k, h => (h rfl).elim
  | [f], k, _ => by simp [movesL, movesI]
  | f :: g :: r, k, _ => by
    rw [movesL, movesI, movesL_eq (g :: r) (k + 1) (by simp)]
    simp only [List.cons_append, List.length_cons, List.getLastD_cons]
    rw [show k + 1 + (r.length + 1) - 1 = k + (r.length + 1 + 1) - 1 by omega]
theorem goes_ne (hA : A.all leg = true) (hg : goes p A = true) {k : Nat} {i : Int} (h : A[k]? = some (.tup [.str sTo, .int i])) : i ≠ spot p A k := by
  have hk : k < A.length := (List.getElem?_eq_some_iff.mp h).1
  have e : A = A.take k ++ A.drop k := (List.take_append_drop k A).symm
  rw [e, goes_app _ _ _ (all_take hA k), Bool.and_eq_true] at hg
  have h2 := hg.2
  rw [List.drop_eq_getElem_cons hk, (List.getElem?_eq_some_iff.mp h).2, goes_to] at h2
  intro z
  rw [if_pos (by rw [beq_iff_eq]; exact z)] at h2
  cases h2
theorem sgn_to {i s : Int} (h : i ≠ s) : sgn (i - s) = if s < i then 1 else -1 := by
  unfold sgn
  split <;> split <;> first | omega | (split <;> omega)
theorem moves_loop (n : Nat) (S : So) (row : List Fm) (hA : A.all leg = true) (hg : goes p A = true) (lA : A.length ≤ 6) (hl : row.length ≤ A.length + 1) : ∀ (rest : List Fm) (f : Fm) (k : Nat) (acc : List D) (x3 x4 x5 x6 x7 : Sl), row.drop k = f :: rest → acc.length + rest.length < 1000 →
    ∃ (y3 y4 y5 y6 y7 : Sl), fLoop (asg lt_moves_of_0) (exs (prg Ps gl (n + 1)) gl lb_moves_of_0) ((List.range' k rest.length).map fun j => .int (j : Nat)) [.sh (.tup [.int p, .tup A]), .sh (.lst (row.map fD)), .ow acc, x3, x4, x5, x6, x7] S = .ok .nx [.sh (.tup [.int p, .tup A]), .sh (.lst (row.map fD)), .ow (acc ++ movesI p A k (f :: rest)), y3, y4, y5, y6, y7] S
  | [], f, k, acc, x3, x4, x5, x6, x7, e, _ => ⟨x3, x4, x5, x6, x7, by simp [movesI]⟩
  | g :: rest, f, k, acc, x3, x4, x5, x6, x7, e, hacc => by
    have hlen := congrArg List.length e
    rw [List.length_drop, List.length_cons, List.length_cons] at hlen
    have hkA : k < A.length := by omega
    have g0 : row[k]? = some f := by have := congrArg (·[0]?) e; simpa using this
    have g1 : row[k + 1]? = some g := by have := congrArg (·[1]?) e; simpa using this
    have i0 := ixD_natL (xs := row.map fD) (i := k) (d := fD f) (by rw [List.getElem?_map, g0]; rfl)
    have i1 := ixD_natL (xs := row.map fD) (i := k + 1) (d := fD g) (by rw [List.getElem?_map, g1]; rfl)
    rw [Int.natCast_add] at i1
    simp at i1
    have e2 : row.drop (k + 1) = g :: rest := by rw [← List.drop_drop, e]; rfl
    have hga : A[k]? = some A[k] := List.getElem?_eq_getElem hkA
    have hx := ixD_nat hga
    have hm : leg A[k] = true := by rw [List.all_eq_true] at hA; exact hA _ (List.getElem_mem hkA)
    have pa := place_ahead_ok n k p A S hA (by omega) lA
    have la : acc.length < 16777216 := by omega
    generalize A[k] = l at hga hx hm
    rw [List.length_cons, List.range'_succ, List.map_cons]
    obtain ⟨i, ⟨rfl, hi⟩ | ⟨rfl, hi⟩⟩ := leg_form hm
    · have hne := goes_ne hA hg hga
      have es := spot_to (p := p) hA hga
      have sg := sgn_to hne
      obtain ⟨y3, y4, y5, y6, y7, ih⟩ := moves_loop n S row hA hg lA hl rest g (k + 1) (acc ++ [mvD f g (spot p A k) (sgn (i - spot p A k))]) (.sh (.int (k : Nat))) (.sh (.int (spot p A k))) (.sh (.int (sgn (i - spot p A k)))) (.sh (.str sTo)) (.sh (.int i)) e2 (by simp at hacc ⊢; omega)
      refine ⟨y3, y4, y5, y6, y7, ?_⟩
      rw [movesI, es]
      simp [lt_moves_of_0, lb_moves_of_0, mvD] at ih
      by_cases hlt : spot p A k < i
      · rw [if_pos hlt] at sg
        rw [sg] at ih ⊢
        simp [floop_cons, lt_moves_of_0, lb_moves_of_0, hx, pa, eqD_str, ok_to, ok_wait, to_wait, hlt, i0, i1, lim, la, mvD, ih]
      · rw [if_neg hlt] at sg
        rw [sg] at ih ⊢
        simp [floop_cons, lt_moves_of_0, lb_moves_of_0, hx, pa, eqD_str, ok_to, ok_wait, to_wait, hlt, i0, i1, lim, la, mvD, ih]
    · have es := spot_wait (p := p) hA hga
      have sg : sgn (spot p A k - spot p A k) = 0 := by simp [sgn]
      obtain ⟨y3, y4, y5, y6, y7, ih⟩ := moves_loop n S row hA hg lA hl rest g (k + 1) (acc ++ [mvD f g (spot p A k) 0]) (.sh (.int (k : Nat))) (.sh (.int (spot p A k))) (.sh (.int 0)) (.sh (.str sWait)) (.sh (.int i)) e2 (by simp at hacc ⊢; omega)
      refine ⟨y3, y4, y5, y6, y7, ?_⟩
      rw [movesI, es, sg]
      simp [lt_moves_of_0, lb_moves_of_0, mvD] at ih
      simp [floop_cons, lt_moves_of_0, lb_moves_of_0, hx, pa, eqD_str, ok_to, ok_wait, i0, i1, lim, la, mvD, ih]
theorem rng_n {n : Nat} (h : n ≤ 1000) : rng1 (.int (n : Int)) = some ((List.range' 0 n).map fun j => .int (j : Nat)) := by
  unfold rng1
  dsimp only
  rw [if_pos (by omega), Int.toNat_natCast, ← List.range_eq_range']
  simp
theorem moves_of_ok (n : Nat) (S : So) (row : List Fm) (hA : A.all leg = true) (hg : goes p A = true) (lA : A.length ≤ 6) (hl : row.length ≤ A.length + 1) (hn : row ≠ []) :
    prg Ps gl (n + 2) i_moves_of [.tup [.int p, .tup A], .lst (row.map fD)] S = .ok (.lst (movesL p A 0 row)) S := by
  rw [p_moves_of, runD_ap rfl]
  have hlast := last_map hn
  have hml := movesL_eq (p := p) (A := A) row 0 hn
  cases row with
  | nil => exact (hn rfl).elim
  | cons f rest =>
    obtain ⟨y3, y4, y5, y6, y7, e⟩ := moves_loop n S (f :: rest) hA hg lA hl rest f 0 [] .no .no .no .no .no rfl (by simp at hl ⊢; omega)
    have pa := place_ahead_ok n rest.length p A S hA (by simp at hl; omega) lA
    have hr := rng_n (n := rest.length) (by simp at hl; omega)
    have li : (movesI p A 0 (f :: rest)).length < 16777216 := by
      have : ∀ (r : List Fm) (k : Nat), (movesI p A k r).length ≤ r.length := by
        intro r
        induction r with
        | nil => intro k; simp [movesI]
        | cons a r ih =>
          intro k
          cases r with
          | nil => simp [movesI]
          | cons b r => rw [movesI, List.length_cons, List.length_cons]; have := ih (k + 1); omega
      have := this (f :: rest) 0
      simp at this hl
      omega
    rw [hml]
    rw [Nat.zero_add, List.length_cons, Nat.add_sub_cancel]
    generalize hM : movesI p A 0 (f :: rest) = M at *
    generalize hL : (f :: rest).getLastD (0, 0) = L at *
    simp at e hlast
    simp [d_moves_of, lim, hr, e, hlast, pa, li, endD]
end
end Lw
end
section
set_option Elab.async false
set_option linter.all false
set_option maxRecDepth 100000
set_option maxHeartbeats 2000000
namespace Lw
open Pv PySem
/-- paces of a size -/
structure Pc (P : Fm) : Prop where
  a0 : 0 < P.1
  a1 : P.1 ≤ 2 ^ 40
  b0 : 0 < P.2
  b1 : P.2 ≤ 2 ^ 40
theorem Pc.sm {P : Fm} (h : Pc P) : smF P := by
  have := h.a0; have := h.a1; have := h.b0; have := h.b1
  unfold smF Lw.sm
  omega
theorem Pc.nn {P : Fm} (h : Pc P) : 0 ≤ P.1 ∧ 0 ≤ P.2 := ⟨by have := h.a0; omega, by have := h.b0; omega⟩
theorem wrt_bd {P f : Fm} (h : Pc P) (b : bdF 100 f) : 0 ≤ wrt P f ∧ wrt P f ≤ 2 ^ 52 := by
  obtain ⟨f0, f1, f2, f3⟩ := b
  have a := h.a0; have a1 := h.a1; have b := h.b0; have b1 := h.b1
  have x1 : 0 ≤ f.1 * P.1 := Int.mul_nonneg f0 (by omega)
  have x2 : 0 ≤ f.2 * P.2 := Int.mul_nonneg f2 (by omega)
  have x3 : f.1 * P.1 ≤ 2000 * 2 ^ 40 := Int.mul_le_mul (by omega) a1 (by omega) (by omega)
  have x4 : f.2 * P.2 ≤ 2000 * 2 ^ 40 := Int.mul_le_mul (by omega) b1 (by omega) (by omega)
  unfold wrt
  omega
theorem sgn_cases (i : Int) : sgn i = 1 ∨ sgn i = 0 ∨ sgn i = -1 := by unfold sgn; split; exact .inl rfl; split; exact .inr (.inr rfl); exact .inr (.inl rfl)
theorem sgn_sm (i : Int) : sm (sgn i) := by rcases sgn_cases i with h | h | h <;> rw [h] <;> (unfold sm; decide)
section
variable {p : Int} {A : List D}
theorem then_loop (n : Nat) (S : So) (P : Fm) (pace time : Int) (M : D) (hP : Pc P) (hA : A.all leg = true) (hp : 0 ≤ p ∧ p ≤ 20) (hpace : sm pace) (t0 : 0 ≤ time) (t1 : time < 2 ^ 80) : ∀ (row : List Fm) (k : Nat) (x4 x5 x6 x7 : Sl), row ≠ [] → (∀ f ∈ row, bdF 100 f) →
    ∃ ρ', fLoop (asg lt_place_then_0) (exs (prg Ps gl (n + 1)) gl lb_place_then_0) (movesL p A k row) [.sh M, .sh (.int pace), .sh (.int time), .sh (fD P), x4, x5, x6, x7] S = .ok (.rt (.tup [.int (topF p A P pace time k row), .int pace])) ρ' S
  | [], k, x4, x5, x6, x7, h, _ => (h rfl).elim
  | [f], k, x4, x5, x6, x7, _, hb => by
    have bf := hb f (by simp)
    have hs := spot_bd (p := p) hA hp.1 hp.2 k
    have w1 := worth_ok n P f S hP.sm (bdF_sm (n := 100) (by omega) bf)
    have wb := wrt_bd hP bf
    have o1 := okMul_sm (i := spot p A k) (j := pace) (by unfold sm; omega) hpace
    have o2 := okMul_sm (i := 0) (j := time - wrt P f) (by unfold sm; decide) (by unfold sm; omega)
    refine ⟨[.sh M, .sh (.int pace), .sh (.int time), .sh (fD P), .sh (fD f), .sh .non, .sh (.int (spot p A k)), .sh (.int 0)], ?_⟩
    simp [movesL, endD, floop_cons, lt_place_then_0, lb_place_then_0, w1, o1, o2, lim, topF]
  | f :: g :: r, k, x4, x5, x6, x7, _, hb => by
    have bf := hb f (by simp)
    have bg := hb g (by simp)
    have hs := spot_bd (p := p) hA hp.1 hp.2 k
    have w1 := worth_ok n P f S hP.sm (bdF_sm (n := 100) (by omega) bf)
    have w2 := worth_ok n P g S hP.sm (bdF_sm (n := 100) (by omega) bg)
    have wb := wrt_bd hP bf
    have o1 := okMul_sm (i := spot p A k) (j := pace) (by unfold sm; omega) hpace
    have o2 := okMul_sm (i := sgn (spot p A (k + 1) - spot p A k)) (j := time - wrt P f) (sgn_sm _) (by unfold sm; omega)
    have eg : isNn false (fD g) = false := Eq.trans rfl rfl
    by_cases h : time < wrt P g
    · refine ⟨[.sh M, .sh (.int pace), .sh (.int time), .sh (fD P), .sh (fD f), .sh (fD g), .sh (.int (spot p A k)), .sh (.int (sgn (spot p A (k + 1) - spot p A k)))], ?_⟩
      simp [movesL, mvD, floop_cons, lt_place_then_0, lb_place_then_0, eg, w1, w2, h, o1, o2, lim, topF]
    · obtain ⟨ρ', ih⟩ := then_loop n S P pace time M hP hA hp hpace t0 t1 (g :: r) (k + 1) (.sh (fD f)) (.sh (fD g)) (.sh (.int (spot p A k))) (.sh (.int (sgn (spot p A (k + 1) - spot p A k)))) (by simp) (fun x hx => hb x (List.mem_cons_of_mem _ hx))
      refine ⟨ρ', ?_⟩
      simp [lt_place_then_0, lb_place_then_0] at ih
      simp [movesL, mvD, floop_cons, lt_place_then_0, lb_place_then_0, eg, w2, h, topF, ih]
theorem place_then_ok (n : Nat) (S : So) (P : Fm) (pace time : Int) (row : List Fm) (hP : Pc P) (hA : A.all leg = true) (hp : 0 ≤ p ∧ p ≤ 20) (hpace : sm pace) (t0 : 0 ≤ time) (t1 : time < 2 ^ 80) (hn : row ≠ []) (hb : ∀ f ∈ row, bdF 100 f) :
    prg Ps gl (n + 2) i_place_then [.lst (movesL p A 0 row), .int pace, .int time, fD P] S = .ok (.tup [.int (topF p A P pace time 0 row), .int pace]) S := by
  rw [p_place_then, runD_ap rfl]
  obtain ⟨ρ', e⟩ := then_loop n S P pace time (.lst (movesL p A 0 row)) hP hA hp hpace t0 t1 row 0 .no .no .no .no hn hb
  simp [d_place_then, e]
theorem topI_topF (P : Fm) (pace time : Int) : ∀ (row : List Fm) (k : Nat), (∀ j, j + 1 < row.length → wrt P (row.getD j (0, 0)) ≤ wrt P (row.getD (j + 1) (0, 0))) → (∀ f, row.head? = some f → wrt P f ≤ time) → topI p A pace time k (row.map (wrt P)) = topF p A P pace time k row
  | [], k, _, _ => rfl
  | [f], k, _, _ => rfl
  | f :: g :: r, k, hm, h0 => by
    have hf := h0 f rfl
    simp only [List.map_cons, topI, topF]
    by_cases h : time < wrt P g
    · rw [if_pos ⟨hf, h⟩, if_pos h]
    · rw [if_neg (fun z => h z.2), if_neg h]
      have := topI_topF P pace time (g :: r) (k + 1) (fun j hj => by
        have := hm (j + 1) (by simp at hj ⊢; omega)
        simpa using this) (fun x hx => by cases hx; omega)
      rw [List.map_cons] at this
      exact this
theorem sign_bl (b : Int) (a : Int) : b2n (decide (a < b)) - b2n (decide (b < a)) = sgn (b - a) := by
  unfold b2n sgn
  by_cases h1 : a < b
  · have h2 : ¬ b < a := by omega
    simp [h1, h2]
  · by_cases h2 : b < a
    · simp [h1, h2]
    · have : a = b := by omega
      subst this
      simp
@[simp] theorem sub_bb (a b : Bool) : binD .sub (.bl a) (.bl b) = some (.int (b2n a - b2n b)) := Eq.trans rfl rfl
theorem top_loop (n : Nat) (S : So) (pace time : Int) (T : List Int) (hA : A.all leg = true) (hp : 0 ≤ p ∧ p ≤ 20) (hl : T.length ≤ A.length + 1) (hpace : sm pace) (ht : time.natAbs < 2 ^ 89) (hT : ∀ t ∈ T, t.natAbs < 2 ^ 89) (v : D) : ∀ (rest : List Int) (t : Int) (k : Nat) (x5 x6 x7 x8 : Sl), T.drop k = t :: rest →
    (∃ ρ', fLoop (asg lt__law_top_0) (exs (prg Ps gl (n + 1)) gl lb__law_top_0) ((List.range' k rest.length).map fun j => .int (j : Nat)) [.sh v, .sh (.lst (T.map .int)), .sh (.int pace), .sh (.int time), .sh (.lst (.int p :: (spotsT p A).map .int)), x5, x6, x7, x8] S = .ok (.rt (.int (topI p A pace time k (t :: rest)))) ρ' S) ∨
    (topI p A pace time k (t :: rest) = spot p A (T.length - 1) * pace ∧ ∃ y5 y6 y7 y8, fLoop (asg lt__law_top_0) (exs (prg Ps gl (n + 1)) gl lb__law_top_0) ((List.range' k rest.length).map fun j => .int (j : Nat)) [.sh v, .sh (.lst (T.map .int)), .sh (.int pace), .sh (.int time), .sh (.lst (.int p :: (spotsT p A).map .int)), x5, x6, x7, x8] S = .ok .nx [.sh v, .sh (.lst (T.map .int)), .sh (.int pace), .sh (.int time), .sh (.lst (.int p :: (spotsT p A).map .int)), y5, y6, y7, y8] S)
  | [], t, k, x5, x6, x7, x8, e => by
    have hlen := congrArg List.length e
    rw [List.length_drop, List.length_singleton] at hlen
    refine .inr ⟨?_, x5, x6, x7, x8, by simp⟩
    rw [topI, show T.length - 1 = k by omega]
  | u :: rest, t, k, x5, x6, x7, x8, e => by
    have hlen := congrArg List.length e
    rw [List.length_drop, List.length_cons, List.length_cons] at hlen
    have g0 : T[k]? = some t := by have := congrArg (·[0]?) e; simpa using this
    have g1 : T[k + 1]? = some u := by have := congrArg (·[1]?) e; simpa using this
    have i0 := ixD_natL (xs := T.map .int) (i := k) (d := .int t) (by rw [List.getElem?_map, g0]; rfl)
    have i1 := ixD_natL (xs := T.map .int) (i := k + 1) (d := .int u) (by rw [List.getElem?_map, g1]; rfl)
    have s0 := spots_at p A k hA (by omega)
    have s1 := spots_at p A (k + 1) hA (by omega)
    rw [Int.natCast_add] at i1 s1
    simp at i1 s1
    have e2 : T.drop (k + 1) = u :: rest := by rw [← List.drop_drop, e]; rfl
    have hs := spot_bd (p := p) hA hp.1 hp.2 k
    have ht2 := hT t (List.mem_of_getElem? g0)
    have o1 := okMul_sm (i := spot p A k) (j := pace) (by unfold sm; omega) hpace
    have o2 := okMul_sm (i := sgn (spot p A (k + 1) - spot p A k)) (j := time - t) (sgn_sm _) (by unfold sm; omega)
    have sb := sign_bl (spot p A (k + 1)) (spot p A k)
    rw [List.length_cons, List.range'_succ, List.map_cons]
    by_cases h : t ≤ time ∧ time < u
    · refine .inl ⟨[.sh v, .sh (.lst (T.map .int)), .sh (.int pace), .sh (.int time), .sh (.lst (.int p :: (spotsT p A).map .int)), .sh (.int (k : Nat)), .sh (.int (sgn (spot p A (k + 1) - spot p A k))), .sh (.int (spot p A k)), .sh (.int (spot p A (k + 1)))], ?_⟩
      rw [topI, if_pos h]
      simp [floop_cons, lt__law_top_0, lb__law_top_0, i0, i1, h.1, h.2, s0, s1, sb, o1, o2]
    · have et : topI p A pace time k (t :: u :: rest) = topI p A pace time (k + 1) (u :: rest) := by rw [topI, if_neg h]
      rw [et]
      have cond : ∀ z : Out Fl, (if t ≤ time then (if time < u then z else z) else z) = z := fun z => by split <;> (try split) <;> rfl
      rcases top_loop n S pace time T hA hp hl hpace ht hT v rest u (k + 1) (.sh (.int (k : Nat))) x6 x7 x8 e2 with ⟨ρ', ih⟩ | ⟨h1, y5, y6, y7, y8, ih⟩
      · refine .inl ⟨ρ', ?_⟩
        simp [lt__law_top_0, lb__law_top_0] at ih
        by_cases c1 : t ≤ time
        · have c2 : ¬ time < u := fun z => h ⟨c1, z⟩
          simp [floop_cons, lt__law_top_0, lb__law_top_0, i0, i1, c1, c2, ih]
        · simp [floop_cons, lt__law_top_0, lb__law_top_0, i0, c1, ih]
      · refine .inr ⟨h1, y5, y6, y7, y8, ?_⟩
        simp [lt__law_top_0, lb__law_top_0] at ih
        by_cases c1 : t ≤ time
        · have c2 : ¬ time < u := fun z => h ⟨c1, z⟩
          simp [floop_cons, lt__law_top_0, lb__law_top_0, i0, i1, c1, c2, ih]
        · simp [floop_cons, lt__law_top_0, lb__law_top_0, i0, c1, ih]
theorem law_top_ok (n : Nat) (S : So) (pace time : Int) (T : List Int) (hA : A.all leg = true) (lA : A.length ≤ 6) (hp : 0 ≤ p ∧ p ≤ 20) (hl : T.length ≤ A.length + 1) (hn : T ≠ []) (hpace : sm pace) (ht : time.natAbs < 2 ^ 89) (hT : ∀ t ∈ T, t.natAbs < 2 ^ 89) :
    prg Ps gl (n + 2) i__law_top [.tup [.int p, .tup A], .lst (T.map .int), .int pace, .int time] S = .ok (.int (topI p A pace time 0 T)) S := by
  rw [p__law_top, runD_ap rfl]
  cases T with
  | nil => exact (hn rfl).elim
  | cons t rest =>
    have ws := spots_ok n p A S hA (by omega)
    have hr := rng_n (n := rest.length) (by simp at hl; omega)
    have sl := spots_at p A rest.length hA (by simp at hl; omega)
    have hs := spot_bd (p := p) hA hp.1 hp.2 rest.length
    have o1 := okMul_sm (i := spot p A rest.length) (j := pace) (by unfold sm; omega) hpace
    rcases top_loop n S pace time (t :: rest) hA hp hl hpace ht hT (.tup [.int p, .tup A]) rest t 0 .no .no .no .no rfl with ⟨ρ', e⟩ | ⟨h1, y5, y6, y7, y8, e⟩
    · simp at ws e
      simp [d__law_top, ws, hr, e]
    · rw [h1]
      simp at ws e
      simp [d__law_top, ws, hr, e, sl, o1]
end
end Lw
end
section
set_option Elab.async false
set_option linter.all false
set_option maxRecDepth 100000
set_option maxHeartbeats 2000000
namespace Lw
open Pv PySem
theorem sm_0 : sm 0 := by unfold sm; decide
theorem sm_1 : sm 1 := by unfold sm; decide
theorem sm_neg {i : Int} (h : sm i) : sm (-i) := by unfold sm at *; omega
abbrev FF := Fm × Fm
def FD (F : FF) : D := .tup [fD F.1, fD F.2]
structure ValF (P : Fm) (F : FF) (v : D) : Prop where
  pos : 0 < wrt P F.2
  s2 : sm (wrt P F.2)
  f1 : smF F.1
  f2 : smF F.2
  val : low (wrt P F.1) (wrt P F.2) = v
theorem value_of_ok (n : Nat) (P : Fm) (F : FF) (v : D) (S : So) (hP : Pc P) (h : ValF P F v) : prg Ps gl (n + 3) i_value_of [FD F, fD P] S = .ok v S := by
  rw [p_value_of, runD_ap rfl]
  have w1 := worth_ok (n + 1) P F.1 S hP.sm h.f1
  have w2 := worth_ok (n + 1) P F.2 S hP.sm h.f2
  have l := lowest_ok n (wrt P F.1) (wrt P F.2) S h.pos h.s2
  rw [h.val] at l
  simp [d_value_of, FD, w1, w2, l]
theorem constant_ok (n : Nat) (x : Int) (S : So) : prg Ps gl (n + 3) i_constant [.int x, .int 1] S = .ok (FD ((x, 0), (1, 0))) S := by
  rw [p_constant, runD_ap rfl]
  have l := lowest_ok n x 1 S (by decide) (by unfold sm; decide)
  have e : low x 1 = .tup [.int x, .int 1] := by
    have g : Int.gcd x 1 = 1 := by simp
    unfold low
    rw [g]
    simp
  rw [e] at l
  simp [d_constant, l, FD, fD, lim]
theorem val_const {P : Fm} (hP : Pc P) {x : Int} (hx : sm x) : ValF P ((x, 0), (1, 0)) (low x 1) := by
  have a0 := hP.a0
  have hs := hP.sm
  have e1 : wrt P (x, 0) = P.1 * x := by unfold wrt; simp [Int.mul_comm]
  have e2 : wrt P (1, 0) = P.1 * 1 := by unfold wrt; simp
  refine ⟨by rw [e2]; omega, ?_, ⟨hx, sm_0⟩, ⟨sm_1, sm_0⟩, ?_⟩
  · rw [e2, Int.mul_one]; exact hs.1
  · rw [e1, e2, low_scale _ _ _ a0]
theorem okMul_one {i j : Int} (h : sm i) (hj : j = 1 ∨ j = 0 ∨ j = -1) : okMul i j = true := okMul_sm h (by rcases hj with e | e | e <;> subst e <;> (unfold sm; decide))
theorem one_okMul {i j : Int} (h : sm i) (hj : j = 1 ∨ j = 0 ∨ j = -1) : okMul j i = true := okMul_sm (by rcases hj with e | e | e <;> subst e <;> (unfold sm; decide)) h
theorem fdiv_1 (i : Int) : binD .fdiv (.int i) (.int 1) = some (.int i) := by
  have := fdiv_ii (i := i) (j := 1) (by decide +kernel)
  rw [this, Int.ediv_one]
theorem fdiv_m1 (i : Int) : binD .fdiv (.int i) (.int (-1)) = some (.int (-i)) := by
  have h : okDiv (-1) = false := by decide +kernel
  have e : i.fdiv (-1) = -i := by rw [Int.fdiv_neg (by decide)]; simp
  simp [binD, h, e]
theorem gcd_pm (x c : Int) (hc : c = 1 ∨ c = -1) : Int.gcd x c = 1 := by rcases hc with e | e <;> subst e <;> simp
/-- the quotient of forms, the lower one of signs alone -/
theorem quotient_ok (n : Nat) (P : Fm) (a b c d : Int) (S : So) (hP : Pc P) (ha : a.natAbs < 2 ^ 40) (hb : b.natAbs < 2 ^ 40) (hc : c = 1 ∨ c = -1) (hd : d = 1 ∨ d = -1) (h0 : wrt P (c, d) ≠ 0) :
    ∃ F, prg Ps gl (n + 4) i_quotient [fD (a, b), fD (c, d), fD P] S = .ok (FD F) S ∧ ValF P F (if 0 < wrt P (c, d) then low (wrt P (a, b)) (wrt P (c, d)) else low (-wrt P (a, b)) (-wrt P (c, d))) := by
  have a0 := hP.a0; have a1 := hP.a1; have b0 := hP.b0; have b1 := hP.b1
  have sa : sm a := by unfold sm; omega
  have sb : sm b := by unfold sm; omega
  have sc : sm c := by rcases hc with e | e <;> subst e <;> (unfold sm; decide)
  have sd : sm d := by rcases hd with e | e <;> subst e <;> (unfold sm; decide)
  have sw : sm (wrt P (c, d)) := by
    have ac : c.natAbs = 1 := by rcases hc with e | e <;> subst e <;> rfl
    have ad : d.natAbs = 1 := by rcases hd with e | e <;> subst e <;> rfl
    have p1 : P.1.natAbs ≤ 2 ^ 40 := by omega
    have p2 : P.2.natAbs ≤ 2 ^ 40 := by omega
    refine Nat.lt_of_le_of_lt (Int.natAbs_add_le (c * P.1) (d * P.2)) ?_
    rw [Int.natAbs_mul, Int.natAbs_mul, ac, ad, Nat.one_mul, Nat.one_mul]
    exact Nat.lt_of_le_of_lt (Nat.add_le_add p1 p2) (by decide)
  have m1 := okMul_sm sa sd
  have m2 := okMul_sm sb sc
  have w1 := worth_ok (n + 2) P (c, d) S hP.sm ⟨sc, sd⟩
  have k1 := constant_ok n a S
  have k2 := constant_ok n (-a) S
  rw [p_quotient, runD_ap rfl]
  by_cases hp : a * d = b * c
  · -- the same at all ratios
    have e : wrt P (a, b) = (c * a) * wrt P (c, d) := by
      unfold wrt
      simp only
      rcases hc with e | e <;> rcases hd with e2 | e2 <;> subst e <;> subst e2 <;> grind
    have hv : (if 0 < wrt P (c, d) then low (wrt P (a, b)) (wrt P (c, d)) else low (-wrt P (a, b)) (-wrt P (c, d))) = low (c * a) 1 := by
      split
      · exact low_eq ‹_› (by decide) (by rw [e, Int.mul_one])
      · exact low_eq (by omega) (by decide) (by rw [e, Int.mul_one, Int.mul_neg])
    rw [hv]
    rcases hc with e1 | e1
    · subst e1
      refine ⟨((a, 0), (1, 0)), ?_, by rw [Int.one_mul]; exact val_const hP sa⟩
      simp [d_quotient, fD, m1, m2, hp, k1]
    · subst e1
      refine ⟨((-a, 0), (1, 0)), ?_, ?_⟩
      · simp [d_quotient, fD, m1, m2, hp, k2]
      · have : (-1 : Int) * a = -a := by omega
        rw [this]
        exact val_const hP (sm_neg sa)
  · have hp' : (a * d == b * c) = false := by rw [beq_eq_false_iff_ne]; exact hp
    have g1 := divisor_ok (n + 2) a b S sb
    have g2 := divisor_ok (n + 2) c d S sd
    rw [gcd_pm c d hd] at g2
    have g3 := divisor_ok (n + 2) ((Int.gcd a b : Nat) : Int) 1 S (by unfold sm; decide)
    rw [gcd_pm _ 1 (.inl rfl)] at g3
    simp at g1 g2 g3 w1
    have o1 : okMul 1 1 = true := by decide +kernel
    have o2 : okMul (-1) 1 = true := by decide +kernel
    by_cases hw : 0 < wrt P (c, d)
    · refine ⟨((a, b), (c, d)), ?_, ?_⟩
      · simp [d_quotient, fD] at w1 ⊢
        simp [fD, m1, m2, hp', w1, hw, g1, g2, g3, o1, fdiv_1, lim, FD]
      · rw [if_pos hw]
        exact ⟨hw, sw, ⟨sa, sb⟩, ⟨sc, sd⟩, rfl⟩
    · have en : wrt P (-c, -d) = - wrt P (c, d) := by unfold wrt; simp only [Int.neg_mul]; omega
      have en2 : wrt P (-a, -b) = - wrt P (a, b) := by unfold wrt; simp only [Int.neg_mul]; omega
      refine ⟨((-a, -b), (-c, -d)), ?_, ?_⟩
      · simp [d_quotient, fD] at w1 ⊢
        simp [fD, m1, m2, hp', w1, hw, g1, g2, g3, o2, fdiv_m1, lim, FD]
      · rw [if_neg hw]
        refine ⟨by rw [en]; omega, by rw [en]; exact sm_neg sw, ⟨sm_neg sa, sm_neg sb⟩, ⟨sm_neg sc, sm_neg sd⟩, by rw [en, en2]⟩
/-- where walkers on such stretches cross -/
def crossV (P : Fm) (B L s0 w0 s1 w1 : Int) : D :=
  if w0 = 0 then low s0 1 else if w1 = 0 then low s1 1 else
  if 0 < w0 * P.2 - w1 * P.1 then low (w0 * w1 * (B - L) - w1 * s0 * P.1 + w0 * s1 * P.2) (w0 * P.2 - w1 * P.1)
  else low (-(w0 * w1 * (B - L) - w1 * s0 * P.1 + w0 * s1 * P.2)) (-(w0 * P.2 - w1 * P.1))
def stD (f : Fm) (e : D) (s w : Int) : D := .tup [fD f, e, .int s, .int w]
theorem crossing_ok (n : Nat) (P f g : Fm) (e1 e2 : D) (s0 w0 s1 w1 : Int) (S : So) (hP : Pc P) (bf : bdF 100 f) (bg : bdF 100 g) (hs0 : 0 ≤ s0 ∧ s0 ≤ 20) (hs1 : 0 ≤ s1 ∧ s1 ≤ 20) (hw0 : w0 = 1 ∨ w0 = 0 ∨ w0 = -1) (hw1 : w1 = 1 ∨ w1 = 0 ∨ w1 = -1) (h0 : w0 * P.2 - w1 * P.1 ≠ 0) :
    ∃ F, prg Ps gl (n + 5) i_crossing [stD f e1 s0 w0, stD g e2 s1 w1, fD P] S = .ok (FD F) S ∧ ValF P F (crossV P (wrt P f) (wrt P g) s0 w0 s1 w1) := by
  have k0 := constant_ok (n + 1) s0 S
  have k1 := constant_ok (n + 1) s1 S
  have ss0 : sm s0 := by unfold sm; omega
  have ss1 : sm s1 := by unfold sm; omega
  rw [p_crossing, runD_ap rfl]
  by_cases z0 : w0 = 0
  · subst z0
    refine ⟨((s0, 0), (1, 0)), ?_, by unfold crossV; rw [if_pos rfl]; exact val_const hP ss0⟩
    simp [d_crossing, stD, k0, lim]
  · by_cases z1 : w1 = 0
    · subst z1
      have z0' : (w0 == 0) = false := by rw [beq_eq_false_iff_ne]; exact z0
      refine ⟨((s1, 0), (1, 0)), ?_, by unfold crossV; rw [if_neg z0, if_pos rfl]; exact val_const hP ss1⟩
      simp [d_crossing, stD, k1, lim, z0']
    · have z0' : (w0 == 0) = false := by rw [beq_eq_false_iff_ne]; exact z0
      have z1' : (w1 == 0) = false := by rw [beq_eq_false_iff_ne]; exact z1
      have hw0' : w0 = 1 ∨ w0 = -1 := by omega
      have hw1' : w1 = 1 ∨ w1 = -1 := by omega
      obtain ⟨f0, f1, f2, f3⟩ := bf
      obtain ⟨g0, g1, g2, g3⟩ := bg
      have mi := minus_ok (n + 3) f g S
      have eC : wrt P (-w1, w0) = w0 * P.2 - w1 * P.1 := by unfold wrt; simp only [Int.neg_mul]; omega
      have sz : ∀ x : Int, x.natAbs ≤ 10000 → (w0 * w1 * x).natAbs ≤ 10000 ∧ (w1 * x).natAbs ≤ 10000 ∧ (w0 * x).natAbs ≤ 10000 ∧ okMul w0 w1 = true ∧ okMul (w0 * w1) x = true ∧ okMul w1 x = true ∧ okMul w0 x = true := by
        intro x hx
        have sx : sm x := by unfold sm; omega
        rcases hw0' with e | e <;> rcases hw1' with e' | e' <;> subst e <;> subst e' <;> refine ⟨by simp; omega, by simp; omega, by simp; omega, by decide +kernel, ?_, ?_, ?_⟩ <;> exact okMul_sm (by unfold sm; decide) sx
      have z2 := sz (f.1 - g.1) (by omega)
      have z3 := sz (f.2 - g.2) (by omega)
      have z4 := sz s0 (by omega)
      have z5 := sz s1 (by omega)
      obtain ⟨F, qF, vF⟩ := quotient_ok n P (w0 * w1 * (f.1 - g.1) - w1 * s0) (w0 * w1 * (f.2 - g.2) + w0 * s1) (-w1) w0 S hP (Nat.lt_of_le_of_lt (Int.natAbs_sub_le _ _) (Nat.lt_of_le_of_lt (Nat.add_le_add z2.1 z4.2.1) (by decide))) (Nat.lt_of_le_of_lt (Int.natAbs_add_le _ _) (Nat.lt_of_le_of_lt (Nat.add_le_add z3.1 z5.2.2.1) (by decide))) (by rcases hw1' with e | e <;> subst e <;> simp) hw0' (by rw [eC]; exact h0)
      have eT : wrt P (w0 * w1 * (f.1 - g.1) - w1 * s0, w0 * w1 * (f.2 - g.2) + w0 * s1) = w0 * w1 * (wrt P f - wrt P g) - w1 * s0 * P.1 + w0 * s1 * P.2 := by
        unfold wrt
        simp only
        grind
      refine ⟨F, ?_, ?_⟩
      · simp [fD] at mi qF
        simp [d_crossing, stD, fD, lim, z0', z1', mi, z2, z3, z4, z5, qF]
      · rw [eC, eT] at vF
        unfold crossV
        rw [if_neg z0, if_neg z1]
        exact vF
end Lw
end
section
set_option Elab.async false
set_option linter.all false
set_option maxRecDepth 100000
set_option maxHeartbeats 2000000
namespace Lw
open Pv PySem
section
variable (p : Int) (A : List D) (P : Fm)
def curF (time : Int) : Nat → List Fm → Fm × Int × Int
  | k, f :: g :: r => if time < wrt P g then (f, spot p A k, sgn (spot p A (k + 1) - spot p A k)) else curF time (k + 1) (g :: r)
  | k, [f] => (f, spot p A k, 0)
  | _, [] => ((0, 0), 0, 0)
/-- the times go up as the legs ask -/
def Tl (pace : Int) : Nat → List Fm → Prop
  | k, f :: g :: r => wrt P f ≤ wrt P g ∧ (spot p A (k + 1) ≠ spot p A k → wrt P g = wrt P f + absI (spot p A (k + 1) - spot p A k) * pace) ∧ Tl pace (k + 1) (g :: r)
  | _, _ => True
end
section
variable {p : Int} {A : List D} {P : Fm}
theorem Row.tl {w : Nat} {row : List Fm} (r : Row P w p A row) : Tl p A P (if w = 0 then P.1 else P.2) 0 row := by
  have : ∀ (n k : Nat), row.length - k = n → Tl p A P (if w = 0 then P.1 else P.2) k (row.drop k) := by
    intro n
    induction n with
    | zero =>
      intro k hk
      rw [List.drop_eq_nil_of_le (by omega)]
      trivial
    | succ n ih =>
      intro k hk
      have hk1 : k < row.length := by omega
      rw [List.drop_eq_getElem_cons hk1]
      by_cases h : k + 1 < row.length
      · have e := ih (k + 1) (by omega)
        rw [List.drop_eq_getElem_cons h] at e ⊢
        have t := r.turn k h
        rw [List.getD_eq_getElem?_getD, List.getD_eq_getElem?_getD, List.getElem?_eq_getElem h, List.getElem?_eq_getElem hk1] at t
        exact ⟨t.1, t.2, e⟩
      · rw [List.drop_eq_nil_of_le (by omega)]
        trivial
  exact this _ 0 rfl
theorem curF_mem {time : Int} : ∀ (row : List Fm) (k : Nat), row ≠ [] → (curF p A P time k row).1 ∈ row
  | [], _, h => (h rfl).elim
  | [f], k, _ => by simp [curF]
  | f :: g :: r, k, _ => by
    rw [curF]
    split
    · simp
    · exact List.mem_cons_of_mem _ (curF_mem (g :: r) (k + 1) (by simp))
theorem curF_way {time : Int} : ∀ (row : List Fm) (k : Nat), (curF p A P time k row).2.2 = 1 ∨ (curF p A P time k row).2.2 = 0 ∨ (curF p A P time k row).2.2 = -1
  | [], _ => by simp [curF]
  | [f], k => by simp [curF]
  | f :: g :: r, k => by
    rw [curF]
    split
    · exact sgn_cases _
    · exact curF_way (g :: r) (k + 1)
theorem curF_spot {time : Int} (hA : A.all leg = true) (hp : 0 ≤ p ∧ p ≤ 20) : ∀ (row : List Fm) (k : Nat), 0 ≤ (curF p A P time k row).2.1 ∧ (curF p A P time k row).2.1 ≤ 20
  | [], _ => by simp [curF]
  | [f], k => spot_bd hA hp.1 hp.2 k
  | f :: g :: r, k => by
    rw [curF]
    split
    · exact spot_bd hA hp.1 hp.2 k
    · exact curF_spot hA hp (g :: r) (k + 1)
theorem topF_cur {pace time : Int} : ∀ (row : List Fm) (k : Nat), row ≠ [] → topF p A P pace time k row = (curF p A P time k row).2.1 * pace + (curF p A P time k row).2.2 * (time - wrt P (curF p A P time k row).1)
  | [], _, h => (h rfl).elim
  | [f], k, _ => by simp [topF, curF]
  | f :: g :: r, k, _ => by
    rw [topF, curF]
    split
    · rfl
    · exact topF_cur (g :: r) (k + 1) (by simp)
theorem topF_at {pace : Int} (hpace : 0 < pace) : ∀ (r : List Fm) (f : Fm) (k : Nat), Tl p A P pace k (f :: r) → topF p A P pace (wrt P f) k (f :: r) = spot p A k * pace
  | [], f, k, _ => rfl
  | g :: r, f, k, h => by
    obtain ⟨h1, h2, h3⟩ := h
    rw [topF]
    split
    · simp
    · have e : wrt P g = wrt P f := by omega
      have := topF_at hpace r g (k + 1) h3
      rw [e] at this
      rw [this]
      by_cases hs : spot p A (k + 1) = spot p A k
      · rw [hs]
      · have h4 := h2 hs
        have h5 : 0 < absI (spot p A (k + 1) - spot p A k) := by unfold absI; split <;> omega
        have := Int.mul_pos h5 hpace
        omega
theorem topF_mark {pace : Int} (hpace : 0 < pace) : ∀ (r : List Fm) (f x : Fm) (k : Nat), Tl p A P pace k (f :: r) → x ∈ f :: r → ∃ y, topF p A P pace (wrt P x) k (f :: r) = y * pace
  | [], f, x, k, h, hx => by
    simp at hx
    subst hx
    exact ⟨_, topF_at hpace [] x k h⟩
  | g :: r, f, x, k, h, hx => by
    rcases List.mem_cons.mp hx with e | e
    · subst e
      exact ⟨_, topF_at hpace (g :: r) x k h⟩
    · have mono : ∀ (r : List Fm) (g : Fm) (k : Nat), Tl p A P pace k (g :: r) → ∀ y ∈ g :: r, wrt P g ≤ wrt P y := by
        intro r
        induction r with
        | nil => intro g k _ y hy; simp at hy; subst hy; exact Int.le_refl _
        | cons a r ih =>
          intro g k h y hy
          rcases List.mem_cons.mp hy with e | e
          · subst e; exact Int.le_refl _
          · exact Int.le_trans h.1 (ih a (k + 1) h.2.2 y e)
      have m := mono r g (k + 1) h.2.2 x e
      rw [topF, if_neg (by omega)]
      exact topF_mark hpace r g x (k + 1) h.2.2 e
theorem sgn_abs (i : Int) : sgn i * absI i = i := by
  unfold sgn absI
  split
  · split <;> omega
  · split <;> omega
/-- on the same stretch, its end too -/
theorem topF_ext {pace : Int} (hpace : 0 < pace) {t u : Int} (htu : t ≤ u) : ∀ (r : List Fm) (f : Fm) (k : Nat), Tl p A P pace k (f :: r) → (∀ h ∈ f :: r, t < wrt P h → u ≤ wrt P h) →
    topF p A P pace u k (f :: r) = (curF p A P t k (f :: r)).2.1 * pace + (curF p A P t k (f :: r)).2.2 * (u - wrt P (curF p A P t k (f :: r)).1)
  | [], f, k, _, _ => by simp [topF, curF]
  | g :: r, f, k, h, hu => by
    obtain ⟨h1, h2, h3⟩ := h
    rw [curF]
    by_cases ht : t < wrt P g
    · rw [if_pos ht]
      have hg := hu g (by simp) ht
      by_cases hug : u < wrt P g
      · rw [topF, if_pos hug]
      · have e : u = wrt P g := by omega
        rw [topF, if_neg hug, e, topF_at hpace r g (k + 1) h3]
        simp only
        by_cases hs : spot p A (k + 1) = spot p A k
        · rw [hs]
          simp [sgn]
        · have h4 := h2 hs
          have h5 := sgn_abs (spot p A (k + 1) - spot p A k)
          rw [h4]
          grind
    · rw [if_neg ht, topF, if_neg (by omega)]
      exact topF_ext hpace htu r g (k + 1) h3 fun x hx => hu x (List.mem_cons_of_mem _ hx)
/-- the law's top at a fraction of time within a stretch -/
theorem topI_ext {pace b t u x : Int} (hb : 0 < b) (h1 : t * b ≤ x) (h2 : x < u * b) : ∀ (r : List Fm) (f : Fm) (k : Nat), Tl p A P pace k (f :: r) → wrt P f ≤ t → (∀ h ∈ f :: r, t < wrt P h → u ≤ wrt P h) →
    topI p A (pace * b) x k ((f :: r).map fun g => wrt P g * b) = ((curF p A P t k (f :: r)).2.1 * pace) * b + (curF p A P t k (f :: r)).2.2 * (x - wrt P (curF p A P t k (f :: r)).1 * b)
  | [], f, k, _, _, _ => by simp [topI, curF, Int.mul_assoc]
  | g :: r, f, k, h, hf, hu => by
    obtain ⟨_, _, h3⟩ := h
    simp only [List.map_cons, topI, curF]
    have m1 : wrt P f * b ≤ t * b := Int.mul_le_mul_of_nonneg_right hf (by omega)
    by_cases ht : t < wrt P g
    · have hg := hu g (by simp) ht
      have m2 : u * b ≤ wrt P g * b := Int.mul_le_mul_of_nonneg_right hg (by omega)
      rw [if_pos ht, if_pos ⟨by omega, by omega⟩, Int.mul_assoc]
    · have m2 : wrt P g * b ≤ t * b := Int.mul_le_mul_of_nonneg_right (by omega) (by omega)
      rw [if_neg ht, if_neg (fun z => by omega)]
      have := topI_ext hb h1 h2 r g (k + 1) h3 (by omega) fun y hy => hu y (List.mem_cons_of_mem _ hy)
      rw [List.map_cons] at this
      exact this
theorem top_bd {pace time : Int} (hP : Pc P) (hA : A.all leg = true) (hp : 0 ≤ p ∧ p ≤ 20) (hpace : 0 < pace ∧ pace ≤ 2 ^ 40) (t0 : 0 ≤ time) (t1 : time < 2 ^ 80) (row : List Fm) (k : Nat) (hn : row ≠ []) (hb : ∀ f ∈ row, bdF 100 f) : sm (topF p A P pace time k row) := by
  rw [topF_cur row k hn]
  have c1 := curF_spot (P := P) (time := time) hA hp row k
  have c2 := curF_way (p := p) (A := A) (P := P) (time := time) row k
  have c3 := wrt_bd hP (hb _ (curF_mem (p := p) (A := A) (P := P) (time := time) row k hn))
  generalize (curF p A P time k row).2.1 = s at *
  generalize (curF p A P time k row).2.2 = w at *
  generalize wrt P (curF p A P time k row).1 = b at *
  have m0 : 0 ≤ s * pace := Int.mul_nonneg c1.1 (by omega)
  have m1 : s * pace ≤ 20 * 2 ^ 40 := Int.mul_le_mul c1.2 hpace.2 (by omega) (by omega)
  unfold sm
  rcases c2 with e | e | e <;> subst e <;> omega
end
section
variable {P : Fm} {p q : Int} {A B : List D}
theorem moving_loop (n : Nat) (S : So) (time : Int) (M : D) (hP : Pc P) : ∀ (row : List Fm) (k : Nat) (x3 : Sl), row ≠ [] → (∀ f ∈ row, bdF 100 f) →
    ∃ e ρ', fLoop (asg lt_moving_0) (exs (prg Ps gl (n + 1)) gl lb_moving_0) (movesL p A k row) [.sh M, .sh (.int time), .sh (fD P), x3] S = .ok (.rt (stD (curF p A P time k row).1 e (curF p A P time k row).2.1 (curF p A P time k row).2.2)) ρ' S
  | [], k, x3, h, _ => (h rfl).elim
  | [f], k, x3, _, hb => by
    refine ⟨.non, [.sh M, .sh (.int time), .sh (fD P), .sh (endD f (spot p A k))], ?_⟩
    simp [movesL, endD, floop_cons, lt_moving_0, lb_moving_0, curF, stD]
  | f :: g :: r, k, x3, _, hb => by
    have bg := hb g (by simp)
    have w2 := worth_ok n P g S hP.sm (bdF_sm (n := 100) (by omega) bg)
    have eg : isNn false (fD g) = false := Eq.trans rfl rfl
    by_cases h : time < wrt P g
    · refine ⟨fD g, [.sh M, .sh (.int time), .sh (fD P), .sh (mvD f g (spot p A k) (sgn (spot p A (k + 1) - spot p A k)))], ?_⟩
      simp [movesL, mvD, floop_cons, lt_moving_0, lb_moving_0, eg, w2, h, curF, stD]
    · obtain ⟨e, ρ', ih⟩ := moving_loop n S time M hP (g :: r) (k + 1) (.sh (mvD f g (spot p A k) (sgn (spot p A (k + 1) - spot p A k)))) (by simp) (fun x hx => hb x (List.mem_cons_of_mem _ hx))
      refine ⟨e, ρ', ?_⟩
      simp [lt_moving_0, lb_moving_0, mvD] at ih
      simp [movesL, mvD, floop_cons, lt_moving_0, lb_moving_0, eg, w2, h, curF, ih]
theorem moving_ok (n : Nat) (S : So) (time : Int) (row : List Fm) (hP : Pc P) (hn : row ≠ []) (hb : ∀ f ∈ row, bdF 100 f) :
    ∃ e, prg Ps gl (n + 2) i_moving [.lst (movesL p A 0 row), .int time, fD P] S = .ok (stD (curF p A P time 0 row).1 e (curF p A P time 0 row).2.1 (curF p A P time 0 row).2.2) S := by
  rw [p_moving, runD_ap rfl]
  obtain ⟨e, ρ', q⟩ := moving_loop (p := p) (A := A) n S time (.lst (movesL p A 0 row)) hP row 0 .no hn hb
  exact ⟨e, by simp [d_moving, q]⟩
theorem sign_of_ok (n : Nat) (i : Int) (S : So) : prg Ps gl (n + 1) i_sign_of [.int i] S = .ok (.int (sgn i)) S := by
  rw [p_sign_of, runD_ap rfl]
  have e := sign_bl i 0
  simp at e
  simp [d_sign_of, e]
def gapF (P : Fm) (p q : Int) (A B : List D) (x : List Fm × List Fm) (t : Int) : Int := topF p A P P.1 t 0 x.1 * P.2 - topF q B P P.2 t 0 x.2 * P.1
theorem gap_then_ok (n : Nat) (S : So) (time : Int) (x : List Fm × List Fm) (hP : Pc P) (hA : A.all leg = true) (hp : 0 ≤ p ∧ p ≤ 20) (hB : B.all leg = true) (hq : 0 ≤ q ∧ q ≤ 20) (t0 : 0 ≤ time) (t1 : time < 2 ^ 80) (n1 : x.1 ≠ []) (n2 : x.2 ≠ []) (b1 : ∀ f ∈ x.1, bdF 100 f) (b2 : ∀ f ∈ x.2, bdF 100 f) :
    prg Ps gl (n + 3) i_gap_then [.lst [.lst (movesL p A 0 x.1), .lst (movesL q B 0 x.2)], .int time, fD P] S = .ok (.int (sgn (gapF P p q A B x time))) S := by
  rw [p_gap_then, runD_ap rfl]
  have e1 := place_then_ok n S P P.1 time x.1 hP hA hp hP.sm.1 t0 t1 n1 b1
  have e2 := place_then_ok n S P P.2 time x.2 hP hB hq hP.sm.2 t0 t1 n2 b2
  have s1 := top_bd (pace := P.1) hP hA hp ⟨hP.a0, hP.a1⟩ t0 t1 x.1 0 n1 b1
  have s2 := top_bd (pace := P.2) hP hB hq ⟨hP.b0, hP.b1⟩ t0 t1 x.2 0 n2 b2
  have o1 := okMul_sm s1 hP.sm.2
  have o2 := okMul_sm s2 hP.sm.1
  have sg := sign_of_ok (n + 1) (gapF P p q A B x time) S
  unfold gapF at *
  generalize movesL p A 0 x.1 = m1 at *
  generalize movesL q B 0 x.2 = m2 at *
  simp [fD] at e1 e2 sg
  simp [d_gap_then, fD, e1, e2, o1, o2, sg]
end
end Lw
end
section
set_option Elab.async false
set_option linter.all false
set_option maxRecDepth 100000
set_option maxHeartbeats 4000000
namespace Lw
open Pv PySem
theorem mark_mod {t y P : Int} (h : t = y * P) : t % P = 0 := by rw [h]; exact Int.mul_emod_left y P
theorem low_int {t P : Int} (hP : 0 < P) (h : t % P = 0) : low (t / P) 1 = low t P := by
  refine low_eq (by decide) hP ?_
  rw [Int.mul_one]
  exact Int.ediv_mul_cancel (Int.dvd_of_emod_eq_zero h)
section
variable {P : Fm} {p q : Int} {A B : List D}
theorem whole_then_ok (n : Nat) (S : So) (time : Int) (x : List Fm × List Fm) (hP : Pc P) (hA : A.all leg = true) (hp : 0 ≤ p ∧ p ≤ 20) (hB : B.all leg = true) (hq : 0 ≤ q ∧ q ≤ 20) (t0 : 0 ≤ time) (t1 : time < 2 ^ 80) (n1 : x.1 ≠ []) (n2 : x.2 ≠ []) (b1 : ∀ f ∈ x.1, bdF 100 f) (b2 : ∀ f ∈ x.2, bdF 100 f)
    (hg : gapF P p q A B x time = 0) (hw : topF p A P P.1 time 0 x.1 % P.1 = 0 ∨ topF q B P P.2 time 0 x.2 % P.2 = 0) :
    ∃ F, prg Ps gl (n + 4) i_whole_then [.lst [.lst (movesL p A 0 x.1), .lst (movesL q B 0 x.2)], .int time, fD P] S = .ok (FD F) S ∧ ValF P F (low (topF p A P P.1 time 0 x.1) P.1) := by
  have e1 := place_then_ok (n + 1) S P P.1 time x.1 hP hA hp hP.sm.1 t0 t1 n1 b1
  have e2 := place_then_ok (n + 1) S P P.2 time x.2 hP hB hq hP.sm.2 t0 t1 n2 b2
  have s1 := top_bd (pace := P.1) hP hA hp ⟨hP.a0, hP.a1⟩ t0 t1 x.1 0 n1 b1
  have s2 := top_bd (pace := P.2) hP hB hq ⟨hP.b0, hP.b1⟩ t0 t1 x.2 0 n2 b2
  have d1 := okDiv_sm hP.a0 hP.sm.1
  have d2 := okDiv_sm hP.b0 hP.sm.2
  have a0 := hP.a0
  have b0 := hP.b0
  unfold gapF at hg
  generalize topF p A P P.1 time 0 x.1 = t at *
  generalize topF q B P P.2 time 0 x.2 = u at *
  generalize movesL p A 0 x.1 = m1 at *
  generalize movesL q B 0 x.2 = m2 at *
  rw [p_whole_then, runD_ap rfl]
  have sdiv : ∀ {a b : Int}, sm a → sm (a / b) := fun {a b} h => by
    unfold sm at *
    exact Nat.lt_of_le_of_lt (Int.natAbs_ediv_le_natAbs a b) h
  by_cases h1 : t % P.1 = 0
  · have k := constant_ok n (t / P.1) S
    refine ⟨((t / P.1, 0), (1, 0)), ?_, ?_⟩
    · simp [fD] at e1
      simp [d_whole_then, floop_cons, lt_whole_then_0, lb_whole_then_0, fD, e1, a0, h1, d1, k, lim]
    · rw [← low_int a0 h1]
      exact val_const hP (sdiv s1)
  · have h2 : u % P.2 = 0 := hw.resolve_left h1
    have h1' : (t % P.1 == 0) = false := by rw [beq_eq_false_iff_ne]; exact h1
    have k := constant_ok n (u / P.2) S
    refine ⟨((u / P.2, 0), (1, 0)), ?_, ?_⟩
    · simp [fD] at e1 e2
      simp [d_whole_then, floop_cons, lt_whole_then_0, lb_whole_then_0, fD, e1, e2, a0, b0, h1', h2, d2, k, lim]
    · have : low t P.1 = low u P.2 := low_eq a0 b0 (by omega)
      rw [this, ← low_int b0 h2]
      exact val_const hP (sdiv s2)
end
/-- the meetings: (place, whether passed) -/
def evs (g : Int → Int) (W X : Int → D) : Int → Option D → List Int → List (D × Bool)
  | _, none, [] => []
  | _, some b, [] => [(b, false)]
  | side, bg, m :: ms =>
    let h := sgn (g m)
    let l := match ms with | [] => h | m2 :: _ => sgn (g m2)
    let bg1 := if h = 0 then (match bg with | none => some (W m) | some b => some b) else bg
    let e1 := if h = 0 ∧ l ≠ 0 then [(bg1.getD .non, decide (side = -l))] else []
    let bg2 := if h = 0 ∧ l ≠ 0 then none else bg1
    let s1 := if h ≠ 0 then h else side
    let e2 := if h * l < 0 then [(X m, true)] else []
    e1 ++ e2 ++ evs g W X (if l ≠ 0 then l else s1) bg2 ms
abbrev sPass : Str := Str.ofString "pass"
abbrev sTouch : Str := Str.ofString "touch"
def kD (b : Bool) : D := .str (if b then sPass else sTouch)
def evD (e : D × Bool) : D := .tup [e.1, kD e.2]
def evFD (e : FF × Bool) : D := .tup [FD e.1, kD e.2]
def bgD : Option FF → D
  | none => .non
  | some F => FD F
theorem isNn_FD (F : FF) (b : Bool) : isNn b (FD F) = b := Eq.trans rfl rfl
theorem sgn_mul_neg {a b : Int} (h : sgn a * sgn b < 0) : sgn a ≠ 0 ∧ sgn b ≠ 0 := by
  constructor
  · intro z; rw [z] at h; simp at h
  · intro z; rw [z] at h; simp at h
section
variable {P : Fm} {p q : Int} {A B : List D}
/-- what the turns ask of the rows -/
structure Mt (P : Fm) (p q : Int) (A B : List D) (x : List Fm × List Fm) : Prop where
  hP : Pc P
  hA : A.all leg = true
  hB : B.all leg = true
  hp : 0 ≤ p ∧ p ≤ 20
  hq : 0 ≤ q ∧ q ≤ 20
  n1 : x.1 ≠ []
  n2 : x.2 ≠ []
  b1 : ∀ f ∈ x.1, bdF 100 f
  b2 : ∀ f ∈ x.2, bdF 100 f
def Wv (P : Fm) (p : Int) (A : List D) (x : List Fm × List Fm) (t : Int) : D := low (topF p A P P.1 t 0 x.1) P.1
def Xv (P : Fm) (p q : Int) (A B : List D) (x : List Fm × List Fm) (t : Int) : D :=
  crossV P (wrt P (curF p A P t 0 x.1).1) (wrt P (curF q B P t 0 x.2).1) (curF p A P t 0 x.1).2.1 (curF p A P t 0 x.1).2.2 (curF q B P t 0 x.2).2.1 (curF q B P t 0 x.2).2.2
theorem scene_comp (n : Nat) (S : So) (x : List Fm × List Fm) (M : Mt P p q A B x) (t : Int) (v0 v2 v4 x5 x6 x7 x8 x10 x11 x13 : Sl) : ∃ e1 e2,
    cLoop [12] (asg ct_met_3) (evc (prg Ps gl (n + 2)) gl .non) (ev (prg Ps gl (n + 2)) gl ce_met_3) [.int 0, .int 1] [] [v0, .sh (fD P), v2, .sh (.lst [.lst (movesL p A 0 x.1), .lst (movesL q B 0 x.2)]), v4, x5, x6, x7, x8, .sh (.int t), x10, x11, .no, x13, .no] S = .ok [stD (curF p A P t 0 x.1).1 e1 (curF p A P t 0 x.1).2.1 (curF p A P t 0 x.1).2.2, stD (curF q B P t 0 x.2).1 e2 (curF q B P t 0 x.2).2.1 (curF q B P t 0 x.2).2.2] [v0, .sh (fD P), v2, .sh (.lst [.lst (movesL p A 0 x.1), .lst (movesL q B 0 x.2)]), v4, x5, x6, x7, x8, .sh (.int t), x10, x11, .no, x13, .no] S := by
  obtain ⟨e1, q1⟩ := moving_ok (p := p) (A := A) n S t x.1 M.hP M.n1 M.b1
  obtain ⟨e2, q2⟩ := moving_ok (p := q) (A := B) n S t x.2 M.hP M.n2 M.b2
  refine ⟨e1, e2, ?_⟩
  generalize movesL p A 0 x.1 = m1 at *
  generalize movesL q B 0 x.2 = m2 at *
  generalize stD (curF p A P t 0 x.1).1 e1 (curF p A P t 0 x.1).2.1 (curF p A P t 0 x.1).2.2 = s1 at *
  generalize stD (curF q B P t 0 x.2).1 e2 (curF q B P t 0 x.2).2.1 (curF q B P t 0 x.2).2.2 = s2 at *
  have := cLoop_all (own := [12]) (st := asg ct_met_3) (x := ev (prg Ps gl (n + 2)) gl ce_met_3) (F := prg Ps gl (n + 2)) (gl := gl) (ρ := [v0, .sh (fD P), v2, .sh (.lst [.lst m1, .lst m2]), v4, x5, x6, x7, x8, .sh (.int t), x10, x11, .no, x13, .no]) (s := S) (g := fun d => match d with | .int 0 => s1 | _ => s2) [.int 0, .int 1] (by simp [lim]) (fun d hd => by
    simp only [List.mem_cons, List.not_mem_nil, or_false] at hd
    rcases hd with rfl | rfl
    · exact ⟨[v0, .sh (fD P), v2, .sh (.lst [.lst m1, .lst m2]), v4, x5, x6, x7, x8, .sh (.int t), x10, x11, .sh (.int 0), x13, .no], by simp [ct_met_3], by simp [wipeR], by simp [ce_met_3, q1]⟩
    · exact ⟨[v0, .sh (fD P), v2, .sh (.lst [.lst m1, .lst m2]), v4, x5, x6, x7, x8, .sh (.int t), x10, x11, .sh (.int 1), x13, .no], by simp [ct_met_3], by simp [wipeR], by simp [ce_met_3, q2]⟩)
  rw [this]
  rfl
end
end Lw
end
section
set_option Elab.async false
set_option linter.all false
set_option maxRecDepth 100000
set_option maxHeartbeats 4000000
namespace Lw
open Pv PySem
def vF (P : Fm) (F : FF) : D := low (wrt P F.1) (wrt P F.2)
def VF (P : Fm) (F : FF) : Prop := ValF P F (vF P F)
theorem ValF.vf {P : Fm} {F : FF} {v : D} (h : ValF P F v) : VF P F ∧ vF P F = v := ⟨⟨h.pos, h.s2, h.f1, h.f2, rfl⟩, h.val⟩
def evV (P : Fm) (e : FF × Bool) : D × Bool := (vF P e.1, e.2)
theorem sgn_om (a b : Int) : okMul (sgn a) (sgn b) = true := by
  rcases sgn_cases a with h | h | h <;> rcases sgn_cases b with k | k | k <;> rw [h, k] <;> decide +kernel
section
variable {P : Fm} {p q : Int} {A B : List D}
theorem met_step (n : Nat) (S : So) (x : List Fm × List Fm) (M : Mt P p q A B x) (Mk : List Int) (k : Nat) (m : Int) (side : Int) (bg : Option FF) (found : List D) (v0 v2 x10 x11 x13 : Sl) (l : Int)
    (m0 : 0 ≤ m) (m1 : m < 2 ^ 80)
    (hl : (k + 1 < Mk.length ∧ ∃ m2, Mk[k + 1]? = some m2 ∧ 0 ≤ m2 ∧ m2 < 2 ^ 80 ∧ l = sgn (gapF P p q A B x m2)) ∨ (Mk.length ≤ k + 1 ∧ l = sgn (gapF P p q A B x m)))
    (hl2 : l = 1 ∨ l = 0 ∨ l = -1)
    (hw : gapF P p q A B x m = 0 → topF p A P P.1 m 0 x.1 % P.1 = 0 ∨ topF q B P P.2 m 0 x.2 % P.2 = 0)
    (hx : sgn (gapF P p q A B x m) * l < 0 → (curF p A P m 0 x.1).2.2 * P.2 - (curF q B P m 0 x.2).2.2 * P.1 ≠ 0)
    (hf : found.length < 1000) (hbg : ∀ F, bg = some F → VF P F) :
    ∃ (new : List (FF × Bool)) (bg' : Option FF) (y10 y11 y13 : Sl),
      exs (prg Ps gl (n + 5)) gl lb_met_2 [v0, .sh (fD P), v2, .sh (.lst [.lst (movesL p A 0 x.1), .lst (movesL q B 0 x.2)]), .sh (.lst (Mk.map .int)), .sh (.lst found), .sh (.int side), .sh (bgD bg), .sh (.int (k : Nat)), .sh (.int m), x10, x11, .no, x13, .no] S = .ok .nx [v0, .sh (fD P), v2, .sh (.lst [.lst (movesL p A 0 x.1), .lst (movesL q B 0 x.2)]), .sh (.lst (Mk.map .int)), .sh (.lst (found ++ new.map evFD)), .sh (.int (if l ≠ 0 then l else if sgn (gapF P p q A B x m) ≠ 0 then sgn (gapF P p q A B x m) else side)), .sh (bgD bg'), .sh (.int (k : Nat)), .sh (.int m), y10, y11, .no, y13, .no] S ∧
      (∀ e ∈ new, VF P e.1) ∧ (∀ F, bg' = some F → VF P F) ∧ new.length ≤ 1 ∧
      (let h := sgn (gapF P p q A B x m)
       let bg1 := if h = 0 then (match bg.map (vF P) with | none => some (Wv P p A x m) | some b => some b) else bg.map (vF P)
       new.map (evV P) = (if h = 0 ∧ l ≠ 0 then [(bg1.getD .non, decide (side = -l))] else []) ++ (if h * l < 0 then [(Xv P p q A B x m, true)] else []) ∧ bg'.map (vF P) = (if h = 0 ∧ l ≠ 0 then none else bg1)) := by
  have hP := M.hP
  have gm := gap_then_ok (n + 2) S m x hP M.hA M.hp M.hB M.hq m0 m1 M.n1 M.n2 M.b1 M.b2
  have later : ∃ r : FR, (k + 1 < Mk.length ∧ ∃ m2, ixD (.lst (Mk.map .int)) (.int ((k : Int) + 1)) = some (.int m2) ∧ prg Ps gl (n + 5) i_gap_then [.lst [.lst (movesL p A 0 x.1), .lst (movesL q B 0 x.2)], .int m2, fD P] S = .ok (.int l) S) ∨ (Mk.length ≤ k + 1 ∧ l = sgn (gapF P p q A B x m)) := by
    refine ⟨.bad, ?_⟩
    rcases hl with ⟨h1, m2, h2, h3, h4, rfl⟩ | h
    · refine .inl ⟨h1, m2, ?_, gap_then_ok (n + 2) S m2 x hP M.hA M.hp M.hB M.hq h3 h4 M.n1 M.n2 M.b1 M.b2⟩
      have := ixD_natL (xs := Mk.map .int) (i := k + 1) (d := .int m2) (by rw [List.getElem?_map, h2]; rfl)
      rw [Int.natCast_add] at this
      exact this
    · exact .inr h
  obtain ⟨_, later⟩ := later
  obtain ⟨e1, e2, sc⟩ := scene_comp (n + 3) S x M m v0 v2 (.sh (.lst (Mk.map .int))) (.sh (.lst found)) (.sh (.int (sgn (gapF P p q A B x m)))) (.sh (bgD bg)) (.sh (.int (k : Nat))) (.sh (.int (sgn (gapF P p q A B x m)))) (.sh (.int l)) x13
  have om := sgn_om (gapF P p q A B x m)
  have ad : ∀ y : D, binD .add (.lst found) (.lst [y]) = some (.lst (found ++ [y])) := fun y => add_l (by simp [lim]; omega)
  have nFD : ∀ F, isNn false (FD F) = false := fun F => isNn_FD F false
  by_cases h0 : sgn (gapF P p q A B x m) = 0
  · have g0 : gapF P p q A B x m = 0 := by unfold sgn at h0; split at h0; cases h0; split at h0; cases h0; omega
    rw [h0] at gm
    have om2 : okMul 0 l = true := by have := om 0; rcases hl2 with e | e | e <;> subst e <;> decide +kernel
    -- the meeting's place
    have st : ∃ F, VF P F ∧ vF P F = (match bg.map (vF P) with | none => Wv P p A x m | some b => b) ∧ ((bg = none ∧ prg Ps gl (n + 5) i_whole_then [.lst [.lst (movesL p A 0 x.1), .lst (movesL q B 0 x.2)], .int m, fD P] S = .ok (FD F) S) ∨ bg = some F) := by
      cases bg with
      | none =>
        obtain ⟨F, e, v⟩ := whole_then_ok (n + 1) S m x hP M.hA M.hp M.hB M.hq m0 m1 M.n1 M.n2 M.b1 M.b2 g0 (hw g0)
        exact ⟨F, v.vf.1, v.vf.2, .inl ⟨rfl, e⟩⟩
      | some F => exact ⟨F, hbg F rfl, rfl, .inr rfl⟩
    obtain ⟨F, vf, ve, st⟩ := st
    generalize movesL p A 0 x.1 = mm1 at *
    generalize movesL q B 0 x.2 = mm2 at *
    generalize gapF P p q A B x m = gg at *
    by_cases l0 : l = 0
    · subst l0
      refine ⟨[], some F, .sh (.int 0), .sh (.int 0), x13, ?_, by simp, (fun G hG => by cases hG; exact vf), by simp, ?_⟩
      · rcases st with ⟨rfl, w⟩ | rfl
        · rcases later with ⟨h1, m2, i2, g2⟩ | ⟨h1, h2⟩
          · simp [lb_met_2, gm, w, bgD, h1, i2, g2, om2, h0]
          · have h1' : ¬ (k : Int) + 1 < (Mk.length : Int) := by omega
            simp [lb_met_2, gm, w, bgD, h1', om2, h0]
        · rcases later with ⟨h1, m2, i2, g2⟩ | ⟨h1, h2⟩
          · have h1' : (k : Int) + 1 < (Mk.length : Int) := by omega
            simp [lb_met_2, gm, bgD, nFD, h1', i2, g2, om2, h0]
          · have h1' : ¬ (k : Int) + 1 < (Mk.length : Int) := by omega
            simp [lb_met_2, gm, bgD, nFD, h1', om2, h0]
      · simp only [h0]
        refine ⟨by simp, ?_⟩
        simp
        rw [ve]
        cases bg <;> rfl
    · rcases later with ⟨h1, m2, i2, g2⟩ | ⟨h1, h2⟩
      · have h1' : (k : Int) + 1 < (Mk.length : Int) := by omega
        have l0' : (l == 0) = false := by rw [beq_eq_false_iff_ne]; exact l0
        refine ⟨[(F, decide (side = -l))], none, .sh (.int 0), .sh (.int l), x13, ?_, by simpa using vf, (fun G hG => by cases hG), by simp, ?_⟩
        · by_cases hs : side = -l
          · rcases st with ⟨rfl, w⟩ | rfl
            · simp [lb_met_2, gm, w, bgD, h1', i2, g2, om2, h0, l0, l0', hs, ad, lim, evFD, kD]
            · simp [lb_met_2, gm, bgD, nFD, h1', i2, g2, om2, h0, l0, l0', hs, ad, lim, evFD, kD]
          · have hs' : (side == -l) = false := by rw [beq_eq_false_iff_ne]; exact hs
            rcases st with ⟨rfl, w⟩ | rfl
            · simp [lb_met_2, gm, w, bgD, h1', i2, g2, om2, h0, l0, l0', hs, hs', ad, lim, evFD, kD]
            · simp [lb_met_2, gm, bgD, nFD, h1', i2, g2, om2, h0, l0, l0', hs, hs', ad, lim, evFD, kD]
        · simp only [h0]
          refine ⟨?_, by simp [l0]⟩
          simp [l0, evV]
          rw [ve]
          cases bg <;> rfl
      · exact (l0 (by rw [h2, h0])).elim
  · have h0' : (sgn (gapF P p q A B x m) == 0) = false := by rw [beq_eq_false_iff_ne]; exact h0
    have cross := crossing_ok n P (curF p A P m 0 x.1).1 (curF q B P m 0 x.2).1 e1 e2 (curF p A P m 0 x.1).2.1 (curF p A P m 0 x.1).2.2 (curF q B P m 0 x.2).2.1 (curF q B P m 0 x.2).2.2 S hP (M.b1 _ (curF_mem _ _ M.n1)) (M.b2 _ (curF_mem _ _ M.n2)) (curF_spot M.hA M.hp _ _) (curF_spot M.hB M.hq _ _) (curF_way _ _) (curF_way _ _)
    have om3 : okMul (sgn (gapF P p q A B x m)) l = true := by rcases hl2 with e | e | e <;> subst e <;> rcases sgn_cases (gapF P p q A B x m) with z | z | z <;> rw [z] <;> decide +kernel
    generalize stD (curF p A P m 0 x.1).1 e1 (curF p A P m 0 x.1).2.1 (curF p A P m 0 x.1).2.2 = s1 at *
    generalize stD (curF q B P m 0 x.2).1 e2 (curF q B P m 0 x.2).2.1 (curF q B P m 0 x.2).2.2 = s2 at *
    have hXv : Xv P p q A B x m = crossV P (wrt P (curF p A P m 0 x.1).1) (wrt P (curF q B P m 0 x.2).1) (curF p A P m 0 x.1).2.1 (curF p A P m 0 x.1).2.2 (curF q B P m 0 x.2).2.1 (curF q B P m 0 x.2).2.2 := rfl
    generalize Xv P p q A B x m = XX at *
    rw [← hXv] at cross
    generalize (curF p A P m 0 x.1).2.2 * P.2 - (curF q B P m 0 x.2).2.2 * P.1 = slope at *
    generalize movesL p A 0 x.1 = mm1 at *
    generalize movesL q B 0 x.2 = mm2 at *
    generalize sgn (gapF P p q A B x m) = h at *
    by_cases hc : h * l < 0
    · obtain ⟨F, c1, c2⟩ := cross (hx hc)
      have l0 : l ≠ 0 := fun z => by subst z; simp at hc
      have l0' : (l == 0) = false := by rw [beq_eq_false_iff_ne]; exact l0
      refine ⟨[(F, true)], bg, .sh (.int h), .sh (.int l), .sh (.lst [s1, s2]), ?_, by simpa using c2.vf.1, hbg, by simp, ?_⟩
      · rcases later with ⟨h1, m2, i2, g2⟩ | ⟨h1, h2⟩
        · have h1' : (k : Int) + 1 < (Mk.length : Int) := by omega
          simp [lb_met_2, gm, h1', i2, g2, om3, h0, h0', l0, l0', hc, noOw, wipeR, backR, sc, c1, ad, lim, evFD, kD]
        · subst h2
          rcases hl2 with e | e | e <;> subst e <;> simp at hc
      · have e := c2.vf.2
        simp only [h0, hc, evV, e, if_false, if_true, false_and, List.map_cons, List.map_nil, List.nil_append, and_self]
    · refine ⟨[], bg, .sh (.int h), .sh (.int l), x13, ?_, by simp, hbg, by simp, ?_⟩
      · rcases later with ⟨h1, m2, i2, g2⟩ | ⟨h1, h2⟩
        · have h1' : (k : Int) + 1 < (Mk.length : Int) := by omega
          by_cases l0 : l = 0
          · subst l0
            simp [lb_met_2, gm, h1', i2, g2, om3, h0, h0']
          · have l0' : (l == 0) = false := by rw [beq_eq_false_iff_ne]; exact l0
            simp [lb_met_2, gm, h1', i2, g2, om3, h0, h0', l0, l0', hc]
        · subst h2
          have h1' : ¬ (k : Int) + 1 < (Mk.length : Int) := by omega
          simp [lb_met_2, gm, h1', om3, h0, h0', hc]
      · simp only [h0, hc, if_false, false_and, List.map_nil, List.nil_append, and_self]
end
end Lw
end
section
set_option Elab.async false
set_option linter.all false
set_option maxRecDepth 100000
set_option maxHeartbeats 4000000
namespace Pv
open PySem
@[simp ↓] theorem comp_ap {ρ ρ1 : Ro} {s : So} {own : List Nat} {st : D → M Unit} {c : M Bool} {x : M D} {items : List D} {r : Out (List D)} (h1 : noOw ρ own = true) (h0 : wipeR ρ own = ρ1) (h2 : cLoop own st c x items [] ρ1 s = r) : compM own st c x items ρ s = cmpK M.pure ρ own r := by
  subst h0
  subst h2
  unfold compM cmpK; rw [if_pos h1]
  cases cLoop own st c x items [] (wipeR ρ own) s <;> rfl
theorem sst_ints {l : List Int} (h : l.length < 64) : sstD (.lst (l.map .int)) = some (.lst ((ssI l).map .int)) := by
  have := intsOf_map (fun i : Int => i) l
  simp only [List.map_id'] at this
  simp only [sstD, this, if_pos h]
end Pv
namespace Lw
open Pv PySem
section
variable {P : Fm} {p q : Int} {A B : List D}
structure Gm (P : Fm) (p q : Int) (A B : List D) (x : List Fm × List Fm) (Mk : List Int) : Prop where
  bd : ∀ m ∈ Mk, 0 ≤ m ∧ m < 2 ^ 80
  wh : ∀ m ∈ Mk, topF p A P P.1 m 0 x.1 % P.1 = 0 ∨ topF q B P P.2 m 0 x.2 % P.2 = 0
  cr : ∀ (k : Nat) (m m2 : Int), Mk[k]? = some m → Mk[k + 1]? = some m2 → sgn (gapF P p q A B x m) * sgn (gapF P p q A B x m2) < 0 → (curF p A P m 0 x.1).2.2 * P.2 - (curF q B P m 0 x.2).2.2 * P.1 ≠ 0
def tailV : Option D → List (D × Bool)
  | none => []
  | some b => [(b, false)]
def nxt (g : Int → Int) (m : Int) : List Int → Int
  | [] => sgn (g m)
  | m2 :: _ => sgn (g m2)
theorem ev_cons (g : Int → Int) (W X : Int → D) (side : Int) (bg : Option D) (m : Int) (ms : List Int) : evs g W X side bg (m :: ms) =
    ((if sgn (g m) = 0 ∧ nxt g m ms ≠ 0 then [((if sgn (g m) = 0 then (match bg with | none => some (W m) | some b => some b) else bg).getD .non, decide (side = -nxt g m ms))] else []) ++ (if sgn (g m) * nxt g m ms < 0 then [(X m, true)] else [])) ++ evs g W X (if nxt g m ms ≠ 0 then nxt g m ms else if sgn (g m) ≠ 0 then sgn (g m) else side) (if sgn (g m) = 0 ∧ nxt g m ms ≠ 0 then none else (if sgn (g m) = 0 then (match bg with | none => some (W m) | some b => some b) else bg)) ms := by
  cases ms <;> cases bg <;> rw [evs] <;> rfl
theorem met_loop (n : Nat) (S : So) (x : List Fm × List Fm) (M : Mt P p q A B x) (Mk : List Int) (G : Gm P p q A B x Mk) (v0 v2 : Sl) : ∀ (ms : List Int) (k : Nat) (side : Int) (bg : Option FF) (found : List D) (x8 x9 x10 x11 x13 : Sl), Mk.drop k = ms → found.length + ms.length < 1000 → (∀ F, bg = some F → VF P F) →
    ∃ (new : List (FF × Bool)) (bg' : Option FF) (side' : Int) (y8 y9 y10 y11 y13 : Sl),
      fLoop (asg lt_met_2) (exs (prg Ps gl (n + 5)) gl lb_met_2) (enmD k (ms.map .int)) [v0, .sh (fD P), v2, .sh (.lst [.lst (movesL p A 0 x.1), .lst (movesL q B 0 x.2)]), .sh (.lst (Mk.map .int)), .sh (.lst found), .sh (.int side), .sh (bgD bg), x8, x9, x10, x11, .no, x13, .no] S = .ok .nx [v0, .sh (fD P), v2, .sh (.lst [.lst (movesL p A 0 x.1), .lst (movesL q B 0 x.2)]), .sh (.lst (Mk.map .int)), .sh (.lst (found ++ new.map evFD)), .sh (.int side'), .sh (bgD bg'), y8, y9, y10, y11, .no, y13, .no] S ∧
      (∀ e ∈ new, VF P e.1) ∧ (∀ F, bg' = some F → VF P F) ∧ new.length ≤ ms.length ∧
      evs (gapF P p q A B x) (Wv P p A x) (Xv P p q A B x) side (bg.map (vF P)) ms = new.map (evV P) ++ tailV (bg'.map (vF P))
  | [], k, side, bg, found, x8, x9, x10, x11, x13, e, hl, hb => by
    refine ⟨[], bg, side, x8, x9, x10, x11, x13, by simp [enmD], by simp, hb, by simp, ?_⟩
    cases bg <;> rfl
  | m :: ms, k, side, bg, found, x8, x9, x10, x11, x13, e, hl, hb => by
    have g0 : Mk[k]? = some m := by have := congrArg (·[0]?) e; simpa using this
    have e2 : Mk.drop (k + 1) = ms := by rw [← List.drop_drop, e]; rfl
    have hm := List.mem_of_getElem? g0
    have bdm := G.bd m hm
    have hlen := congrArg List.length e2
    rw [List.length_drop] at hlen
    have hk : k < Mk.length := (List.getElem?_eq_some_iff.mp g0).1
    rw [List.length_cons] at hl
    have st := met_step n S x M Mk k m side bg found v0 v2 x10 x11 x13 (nxt (gapF P p q A B x) m ms) bdm.1 bdm.2 (by
      cases ms with
      | nil => exact .inr ⟨by simp at hlen; omega, rfl⟩
      | cons m2 r =>
        have g1 : Mk[k + 1]? = some m2 := by have := congrArg (·[0]?) e2; simpa using this
        have b2 := G.bd m2 (List.mem_of_getElem? g1)
        exact .inl ⟨(List.getElem?_eq_some_iff.mp g1).1, m2, g1, b2.1, b2.2, rfl⟩) (by
      cases ms with
      | nil => exact sgn_cases _
      | cons m2 r => exact sgn_cases _) (fun _ => G.wh m hm) (by
      cases ms with
      | nil =>
        intro h
        simp only [nxt] at h
        rcases sgn_cases (gapF P p q A B x m) with z | z | z <;> rw [z] at h <;> simp at h
      | cons m2 r =>
        have g1 : Mk[k + 1]? = some m2 := by have := congrArg (·[0]?) e2; simpa using this
        exact G.cr k m m2 g0 g1) (by omega) hb
    obtain ⟨new, bg', y10, y11, y13, q1, hn, hb', hn1, hv⟩ := st
    generalize hside : (if nxt (gapF P p q A B x) m ms ≠ 0 then nxt (gapF P p q A B x) m ms else if sgn (gapF P p q A B x m) ≠ 0 then sgn (gapF P p q A B x m) else side) = side1 at q1
    obtain ⟨new2, bg2, side2, z8, z9, z10, z11, z13, q2, hn2, hb2, hl2, hv2⟩ := met_loop n S x M Mk G v0 v2 ms (k + 1) side1 bg' (found ++ new.map evFD) (.sh (.int (k : Nat))) (.sh (.int m)) y10 y11 y13 e2 (by rw [List.length_append, List.length_map]; omega) hb'
    refine ⟨new ++ new2, bg2, side2, z8, z9, z10, z11, z13, ?_, ?_, hb2, by rw [List.length_append, List.length_cons]; omega, ?_⟩
    · simp [lt_met_2] at q2
      simp [enmD, floop_cons, lt_met_2, bind_eq q1, q2]
    · intro a ha
      rcases List.mem_append.mp ha with h | h
      · exact hn a h
      · exact hn2 a h
    · rw [List.map_append, List.append_assoc, ← hv2, hv.1, hv.2, ← hside]
      cases ms with
      | nil => exact ev_cons _ _ _ _ _ _ _
      | cons a r => exact ev_cons _ _ _ _ _ _ _
/-- the marks -/
def marks (P : Fm) (x : List Fm × List Fm) : List Int := ssI ((x.1 ++ x.2).map (wrt P))
def evL (P : Fm) (p q : Int) (A B : List D) : List (D × Bool) :=
  let x := rows P p q A B
  evs (gapF P p q A B x) (Wv P p A x) (Xv P p q A B x) 0 none (marks P x)
theorem mark_of {x : List Fm × List Fm} {m : Int} : m ∈ marks P x ↔ ∃ f, (f ∈ x.1 ∨ f ∈ x.2) ∧ wrt P f = m := by
  unfold marks
  rw [ssI_mem, List.mem_map]
  constructor
  · rintro ⟨f, h, e⟩; exact ⟨f, List.mem_append.mp h, e⟩
  · rintro ⟨f, h, e⟩; exact ⟨f, List.mem_append.mpr h, e⟩
theorem marks_next {x : List Fm × List Fm} {k : Nat} {m m2 : Int} (h1 : (marks P x)[k]? = some m) (h2 : (marks P x)[k + 1]? = some m2) : m < m2 ∧ ∀ f, f ∈ x.1 ∨ f ∈ x.2 → m < wrt P f → m2 ≤ wrt P f := by
  have so := ssI_sorted ((x.1 ++ x.2).map (wrt P))
  have hk := (List.getElem?_eq_some_iff.mp h1)
  have hk2 := (List.getElem?_eq_some_iff.mp h2)
  refine ⟨?_, fun f hf hlt => ?_⟩
  · have := List.pairwise_iff_getElem.mp so k (k + 1) hk.1 hk2.1 (by omega)
    rw [← hk.2, ← hk2.2]
    exact this
  · have hm : wrt P f ∈ marks P x := mark_of.mpr ⟨f, hf, rfl⟩
    obtain ⟨j, hj, e⟩ := List.getElem_of_mem hm
    have : k < j := by
      apply Nat.lt_of_not_le
      intro hle
      by_cases ejk : j = k
      · subst ejk
        rw [hk.2] at e
        omega
      · have := List.pairwise_iff_getElem.mp so j k hj hk.1 (by omega)
        have e3 : (marks P x)[j] < (marks P x)[k]'hk.1 := this
        rw [hk.2, e] at e3
        omega
    by_cases e4 : j = k + 1
    · subst e4
      rw [hk2.2] at e
      omega
    · have e3 : (marks P x)[k + 1]'hk2.1 < (marks P x)[j] := List.pairwise_iff_getElem.mp so (k + 1) j hk2.1 hj (by omega)
      rw [hk2.2, e] at e3
      omega
theorem Inv2.mt {x : List Fm × List Fm} (I : Inv2 P p q A B x) (hP : Pc P) (hA : A.all leg = true) (hB : B.all leg = true) (hp : 0 ≤ p ∧ p ≤ 20) (hq : 0 ≤ q ∧ q ≤ 20) (lA : A.length ≤ 6) (lB : B.length ≤ 6) : Mt P p q A B x :=
  ⟨hP, hA, hB, hp, hq, I.one.ne, I.two.ne, fun f hf => bdF_mono (by have := I.one.len; have := I.two.len; omega) (I.bd1 f hf), fun f hf => bdF_mono (by have := I.one.len; have := I.two.len; omega) (I.bd2 f hf)⟩
theorem Inv2.gm {x : List Fm × List Fm} (I : Inv2 P p q A B x) (M : Mt P p q A B x) : Gm P p q A B x (marks P x) := by
  have t1 := I.one.tl
  have t2 := I.two.tl
  simp at t1 t2
  obtain ⟨f1, r1, e1⟩ := List.exists_cons_of_ne_nil M.n1
  obtain ⟨f2, r2, e2⟩ := List.exists_cons_of_ne_nil M.n2
  refine ⟨fun m hm => ?_, fun m hm => ?_, fun k m m2 h1 h2 hs => ?_⟩
  · obtain ⟨f, hf, rfl⟩ := mark_of.mp hm
    have hb : bdF 100 f := hf.elim (M.b1 f) (M.b2 f)
    have := wrt_bd M.hP hb
    omega
  · obtain ⟨f, hf, rfl⟩ := mark_of.mp hm
    rcases hf with hf | hf
    · rw [e1] at t1 hf ⊢
      obtain ⟨y, hy⟩ := topF_mark M.hP.a0 r1 f1 f 0 t1 hf
      exact .inl (mark_mod hy)
    · rw [e2] at t2 hf ⊢
      obtain ⟨y, hy⟩ := topF_mark M.hP.b0 r2 f2 f 0 t2 hf
      exact .inr (mark_mod hy)
  · intro z
    obtain ⟨hlt, hno⟩ := marks_next h1 h2
    have x1 : topF p A P P.1 m2 0 x.1 = topF p A P P.1 m 0 x.1 + (curF p A P m 0 x.1).2.2 * (m2 - m) := by
      rw [topF_cur (time := m) x.1 0 M.n1]
      rw [e1] at t1
      have := topF_ext M.hP.a0 (t := m) (u := m2) (by omega) r1 f1 0 t1 (fun h hh => hno h (.inl (by rw [e1]; exact hh)))
      rw [← e1] at this
      rw [this]
      grind
    have x2 : topF q B P P.2 m2 0 x.2 = topF q B P P.2 m 0 x.2 + (curF q B P m 0 x.2).2.2 * (m2 - m) := by
      rw [topF_cur (time := m) x.2 0 M.n2]
      rw [e2] at t2
      have := topF_ext M.hP.b0 (t := m) (u := m2) (by omega) r2 f2 0 t2 (fun h hh => hno h (.inr (by rw [e2]; exact hh)))
      rw [← e2] at this
      rw [this]
      grind
    have : gapF P p q A B x m2 = gapF P p q A B x m := by
      unfold gapF
      rw [x1, x2]
      generalize (curF p A P m 0 x.1).2.2 = w1 at *
      generalize (curF q B P m 0 x.2).2.2 = w2 at *
      grind
    rw [this] at hs
    rcases sgn_cases (gapF P p q A B x m) with z | z | z <;> rw [z] at hs <;> simp at hs
end
end Lw
end
section
set_option Elab.async false
set_option linter.all false
set_option maxRecDepth 100000
set_option maxHeartbeats 4000000
namespace Lw
open Pv PySem
theorem rowlen {P : Fm} {p q : Int} {A B : List D} {x : List Fm × List Fm} (I : Inv2 P p q A B x) (lA : A.length ≤ 6) (lB : B.length ≤ 6) : (x.1 ++ x.2).length ≤ 14 := by
  have := I.one.len; have := I.two.len
  rw [List.length_append]
  omega
theorem worth_map (n : Nat) (S : So) (P : Fm) (hP : Pc P) (own : List Nat) (i : Nat) (tg : Tg) (ce : E) (l : List Fm) (hb : ∀ f ∈ l, bdF 100 f) (hl : l.length ≤ 100) (ρ : Ro)
    (h : ∀ f : Fm, ∃ ρ1, asg tg (fD f) ρ S = .ok () ρ1 S ∧ wipeR ρ1 own = ρ ∧ ∀ r, prg Ps gl (n + 1) i_worth [fD f, fD P] S = r → ev (prg Ps gl (n + 1)) gl ce ρ1 S = callK M.pure ρ1 r) :
    cLoop own (asg tg) (evc (prg Ps gl (n + 1)) gl .non) (ev (prg Ps gl (n + 1)) gl ce) (l.map fD) [] ρ S = .ok (l.map (wD P)) ρ S := by
  have hm : ∀ d ∈ l.map fD, ∃ f ∈ l, fD f = d := fun d hd => by
    obtain ⟨f, h1, h2⟩ := List.mem_map.mp hd
    exact ⟨f, h1, h2⟩
  have := cLoop_all (own := own) (st := asg tg) (x := ev (prg Ps gl (n + 1)) gl ce) (F := prg Ps gl (n + 1)) (gl := gl) (ρ := ρ) (s := S) (g := fun d => match d with | .tup [.int a, .int b] => .int (a * P.1 + b * P.2) | _ => .non) (l.map fD) (by rw [List.length_map]; unfold lim; omega) (fun d hd => by
    obtain ⟨f, hf, rfl⟩ := hm d hd
    obtain ⟨ρ1, h1, h2, h3⟩ := h f
    refine ⟨ρ1, h1, h2, ?_⟩
    rw [h3 _ (worth_ok n P f S hP.sm (bdF_sm (n := 100) (by omega) (hb f hf)))]
    rfl)
  rw [this, List.map_map]
  rfl
section
variable {P : Fm} {p q : Int} {A B : List D}
theorem moves_comp (n : Nat) (S : So) (x : List Fm × List Fm) (hA : A.all leg = true) (hB : B.all leg = true) (gA : goes p A = true) (gB : goes q B = true) (lA : A.length ≤ 6) (lB : B.length ≤ 6) (I : Inv2 P p q A B x) :
    cLoop [12] (asg ct_met_0) (evc (prg Ps gl (n + 2)) gl .non) (ev (prg Ps gl (n + 2)) gl ce_met_0) [.int 0, .int 1] [] [.sh (pairD p q A B), .sh (fD P), .sh (.lst [.lst (x.1.map fD), .lst (x.2.map fD)]), .no, .no, .no, .no, .no, .no, .no, .no, .no, .no, .no, .no] S = .ok [.lst (movesL p A 0 x.1), .lst (movesL q B 0 x.2)] [.sh (pairD p q A B), .sh (fD P), .sh (.lst [.lst (x.1.map fD), .lst (x.2.map fD)]), .no, .no, .no, .no, .no, .no, .no, .no, .no, .no, .no, .no] S := by
  have q1 := moves_of_ok n S x.1 hA gA lA I.one.len I.one.ne
  have q2 := moves_of_ok n S x.2 hB gB lB I.two.len I.two.ne
  generalize movesL p A 0 x.1 = m1 at *
  generalize movesL q B 0 x.2 = m2 at *
  have := cLoop_all (own := [12]) (st := asg ct_met_0) (x := ev (prg Ps gl (n + 2)) gl ce_met_0) (F := prg Ps gl (n + 2)) (gl := gl) (ρ := [.sh (pairD p q A B), .sh (fD P), .sh (.lst [.lst (x.1.map fD), .lst (x.2.map fD)]), .no, .no, .no, .no, .no, .no, .no, .no, .no, .no, .no, .no]) (s := S) (g := fun d => match d with | .int 0 => .lst m1 | _ => .lst m2) [.int 0, .int 1] (by simp [lim]) (fun d hd => by
    simp only [List.mem_cons, List.not_mem_nil, or_false] at hd
    rcases hd with rfl | rfl
    · exact ⟨[.sh (pairD p q A B), .sh (fD P), .sh (.lst [.lst (x.1.map fD), .lst (x.2.map fD)]), .no, .no, .no, .no, .no, .no, .no, .no, .no, .sh (.int 0), .no, .no], by simp [ct_met_0], by simp [wipeR], by simp [ce_met_0, pairD, q1]⟩
    · exact ⟨[.sh (pairD p q A B), .sh (fD P), .sh (.lst [.lst (x.1.map fD), .lst (x.2.map fD)]), .no, .no, .no, .no, .no, .no, .no, .no, .no, .sh (.int 1), .no, .no], by simp [ct_met_0], by simp [wipeR], by simp [ce_met_0, pairD, q2]⟩)
  rw [this]
  rfl
theorem met_ok (n : Nat) (S : So) (hP : Pc P) (hA : A.all leg = true) (hB : B.all leg = true) (hp : 0 ≤ p ∧ p ≤ 20) (hq : 0 ≤ q ∧ q ≤ 20) (gA : goes p A = true) (gB : goes q B = true) (lA : A.length ≤ 6) (lB : B.length ≤ 6) :
    ∃ L : List (FF × Bool), prg Ps gl (n + 6) i_met [pairD p q A B, fD P] S = .ok (.lst (L.map evFD)) S ∧ (∀ e ∈ L, VF P e.1) ∧ L.map (evV P) = evL P p q A B ∧ L.length ≤ 100 := by
  have ta := times_at_ok (n + 2) S hP.sm hP.nn hA hp hB hq lA lB
  have I := rows_inv (P := P) hP.nn hA hp hB hq
  have hE : evL P p q A B = evs (gapF P p q A B (rows P p q A B)) (Wv P p A (rows P p q A B)) (Xv P p q A B (rows P p q A B)) 0 none (marks P (rows P p q A B)) := rfl
  rw [hE]
  generalize rows P p q A B = x at *
  have M := I.mt hP hA hB hp hq lA lB
  have G := I.gm M
  have mc := moves_comp (n + 3) S x hA hB gA gB lA lB I
  have len := rowlen I lA lB
  have ad : binD .add (.lst (x.1.map fD)) (.lst (x.2.map fD)) = some (.lst ((x.1 ++ x.2).map fD)) := by
    rw [List.map_append]
    refine add_l ?_
    rw [List.length_append] at len
    rw [List.length_map, List.length_map]
    unfold lim
    omega
  have wm := worth_map (n + 4) S P hP [14] 14 ct_met_1 ce_met_1 (x.1 ++ x.2) (fun f hf => (List.mem_append.mp hf).elim (M.b1 f) (M.b2 f)) (by omega) [.sh (pairD p q A B), .sh (fD P), .sh (.lst [.lst (x.1.map fD), .lst (x.2.map fD)]), .sh (.lst [.lst (movesL p A 0 x.1), .lst (movesL q B 0 x.2)]), .no, .no, .no, .no, .no, .no, .no, .no, .no, .no, .no]
    (fun f => ⟨[.sh (pairD p q A B), .sh (fD P), .sh (.lst [.lst (x.1.map fD), .lst (x.2.map fD)]), .sh (.lst [.lst (movesL p A 0 x.1), .lst (movesL q B 0 x.2)]), .no, .no, .no, .no, .no, .no, .no, .no, .no, .no, .sh (fD f)], by simp [ct_met_1], by simp [wipeR], fun r hr => by simp [ce_met_1, hr]⟩)
  have wmap : (x.1 ++ x.2).map (wD P) = ((x.1 ++ x.2).map (wrt P)).map .int := by rw [List.map_map]; rfl
  have ss := sst_ints (l := (x.1 ++ x.2).map (wrt P)) (by rw [List.length_map]; omega)
  rw [wmap] at wm
  have emk : ssI ((x.1 ++ x.2).map (wrt P)) = marks P x := rfl
  rw [emk] at ss
  generalize hLF : (x.1 ++ x.2).map fD = LF at ad wm
  generalize hLI : ((x.1 ++ x.2).map (wrt P)).map D.int = LI at wm ss
  generalize hmk : marks P x = Mk at *
  have hmlen : Mk.length ≤ 14 := by
    rw [← hmk]
    have : ∀ l : List Int, (ssI l).length ≤ l.length := by
      intro l
      induction l with
      | nil => simp [ssI]
      | cons a l ih =>
        have h2 : ∀ (i : Int) (m : List Int), (insI i m).length ≤ m.length + 1 := by
          intro i m
          induction m with
          | nil => simp [insI]
          | cons b m ih => unfold insI; split; simp; split; simp; simp; omega
        have := h2 a (ssI l)
        simp only [ssI, List.foldr_cons, List.length_cons] at *
        omega
    have := this ((x.1 ++ x.2).map (wrt P))
    rw [List.length_map] at this
    unfold marks
    omega
  obtain ⟨new, bg', side', y8, y9, y10, y11, y13, lo, h1, h2, h3, h4⟩ := met_loop n S x M Mk G (.sh (pairD p q A B)) (.sh (.lst [.lst (x.1.map fD), .lst (x.2.map fD)])) Mk 0 0 none [] .no .no .no .no .no rfl (by simp; omega) (fun F hF => by cases hF)
  have nFD : ∀ F, isNn true (FD F) = true := fun F => isNn_FD F true
  rw [p_met, runD_ap rfl]
  generalize movesL p A 0 x.1 = m1 at *
  generalize movesL q B 0 x.2 = m2 at *
  cases bg' with
  | none =>
    refine ⟨new, ?_, h1, by simpa [tailV] using h4.symm, by omega⟩
    have ad2 : binD .add (.lst (new.map evFD)) (.lst []) = some (.lst (new.map evFD)) := by
      have := add_l (xs := new.map evFD) (ys := []) (by simp [lim]; omega)
      simpa using this
    simp [bgD] at lo
    simp [d_met, ta, noOw, wipeR, backR, mc, ad, wm, ss, lo, lim, bgD, ad2]
  | some F =>
    have vf := h2 F rfl
    refine ⟨new ++ [(F, false)], ?_, ?_, ?_, ?_⟩
    · have ad2 : binD .add (.lst (new.map evFD)) (.lst [evFD (F, false)]) = some (.lst (new.map evFD ++ [evFD (F, false)])) := add_l (by simp [lim]; omega)
      simp [bgD, evFD, kD] at lo ad2
      simp [d_met, ta, noOw, wipeR, backR, mc, ad, wm, ss, lo, lim, bgD, nFD, evFD, kD, ad2]
    · intro e he
      rcases List.mem_append.mp he with h | h
      · exact h1 e h
      · rw [List.mem_singleton] at h; subst h; exact vf
    · rw [List.map_append]
      exact h4.symm
    · rw [List.length_append, List.length_singleton]
      omega
end
end Lw
end
section
set_option Elab.async false
set_option linter.all false
set_option maxRecDepth 100000
set_option maxHeartbeats 4000000
namespace Pv
open PySem
theorem cLoop_map {α : Type} {own : List Nat} {st : D → M Unit} {x : M D} {F : Nat → List D → So → FR} {gl : Nat → Option D} {ρ : Ro} {s : So} (e g : α → D) : ∀ (l : List α) (acc : List D), acc.length + l.length ≤ lim →
    (∀ a ∈ l, ∃ ρ1, st (e a) ρ s = .ok () ρ1 s ∧ wipeR ρ1 own = ρ ∧ x ρ1 s = .ok (g a) ρ1 s) → cLoop own st (evc F gl .non) x (l.map e) acc ρ s = .ok (acc ++ l.map g) ρ s
  | [], acc, _, _ => by simp [cLoop, M.pure]
  | a :: l, acc, hl, h => by
    obtain ⟨ρ1, h1, h2, h3⟩ := h a (List.mem_cons_self ..)
    rw [List.length_cons] at hl
    have ih := cLoop_map (F := F) (gl := gl) e g l (acc ++ [g a]) (by rw [List.length_append, List.length_singleton]; omega) fun b hb => h b (List.mem_cons_of_mem _ hb)
    rw [List.map_cons, cLoop, bind_eq h1]
    have hc : evc F gl EO.non ρ1 s = .ok true ρ1 s := by rw [evc_non]; rfl
    rw [bind_eq hc, if_pos rfl, bind_eq h3, if_pos (by omega)]
    show cLoop own st (evc F gl .non) x (l.map e) (acc ++ [g a]) (wipeR ρ1 own) s = _
    rw [h2, ih, List.map_cons, List.append_assoc]
    rfl
end Pv
namespace Lw
open Pv PySem
theorem gl1 : gl 1 = some (.int 1000000000000) := Eq.trans rfl rfl
def pacesB (v : D) : Bool := match v with
  | .tup [a, b] => whole a 1 1000000000000 && whole b 1 1000000000000
  | _ => false
theorem need_paces_ok (n : Nat) (v : D) (S : So) (h : pw v = true) : prg Ps gl (n + 3) i_need_paces [v] S = if pacesB v = true then .ok .non S else .ex 3 S := by
  rw [p_need_paces, runD_ap rfl]
  cases v with
  | tup xs =>
    match xs, h with
    | [], h => simp [d_need_paces, pacesB]
    | [a], h => simp [d_need_paces, pacesB]
    | a :: b :: c :: r, h =>
      have e : ((r.length : Int) + 1 + 1 + 1 == 2) = false := by rw [beq_eq_false_iff_ne]; omega
      simp [d_need_paces, pacesB, e]
    | [a, b], h =>
      have hm := pws_mem (xs := [a, b]) (by simpa [pw] using h)
      have c1 : cLoop [1] (asg ct_need_paces_0) (evc (prg Ps gl (n + 2)) gl .non) (ev (prg Ps gl (n + 2)) gl ce_need_paces_0) [a, b] [] [.sh (.tup [a, b]), .no] S = .ok ([a, b].map fun d => .bl (whole d 1 1000000000000)) [.sh (.tup [a, b]), .no] S := by
        refine cLoop_all _ (by simp [lim]) fun d hd => ?_
        have w2 := is_whole_ok n d 1 1000000000000 S (hm d hd)
        exact ⟨[.sh (.tup [a, b]), .sh d], by simp [ct_need_paces_0], by simp [wipeR], by simp [ce_need_paces_0, w2, gl1]⟩
      cases ha : whole a 1 1000000000000 <;> cases hb : whole b 1 1000000000000 <;> simp [d_need_paces, pacesB, c1, noOw, wipeR, backR, bltD, blsOf, ha, hb]
  | ob m => cases h
  | scr m => cases h
  | _ => simp [d_need_paces, pacesB]
theorem need_walk_ok (n : Nat) (v w : D) (S : So) (hv : pw v = true) (hw : pw w = true) : prg Ps gl (n + 7) i_need_walk [v, w] S = if pair v = true then (if pacesB w = true then .ok .non S else .ex 3 S) else .ex 2 S := by
  rw [p_need_walk, runD_ap rfl]
  have a := need_pair_ok n v S hv
  have b := need_paces_ok (n + 3) w S hw
  cases h1 : pair v <;> cases h2 : pacesB w <;> simp [d_need_walk, a, b, h1, h2]
theorem need_walker_ok (n : Nat) (v : D) (S : So) (h : pw v = true) : prg Ps gl (n + 3) i_need_walker [v] S = if whole v 0 1 = true then .ok .non S else .ex 4 S := by
  rw [p_need_walker, runD_ap rfl]
  have a := is_whole_ok n v 0 1 S h
  cases h1 : whole v 0 1 <;> simp [d_need_walker, a, h1]
def timeB (v : D) : Bool := match v with
  | .int i => decide (0 ≤ i)
  | _ => false
theorem need_time_ok (n : Nat) (v : D) (S : So) (h : pw v = true) : prg Ps gl (n + 2) i_need_time [v] S = if timeB v = true then .ok .non S else .ex 5 S := by
  rw [p_need_time, runD_ap rfl]
  have a := is_plain_ok n v S h
  cases v with
  | int i =>
    by_cases hi : 0 ≤ i
    · have : ¬ i < 0 := by omega
      simp [d_need_time, a, isInt, timeB, hi, this]
    · have : i < 0 := by omega
      simp [d_need_time, a, isInt, timeB, hi, this]
  | ob m => cases h
  | scr m => cases h
  | _ => simp [d_need_time, a, isInt, timeB]
section
variable {P : Fm} {p q : Int} {A B : List D}
/-- a pair of scripts, in parts -/
structure Pr (p q : Int) (A B : List D) : Prop where
  pr : pair (pairD p q A B) = true
  pw : pw (pairD p q A B) = true
  hA : A.all leg = true
  hB : B.all leg = true
  hp : 0 ≤ p ∧ p ≤ 20
  hq : 0 ≤ q ∧ q ≤ 20
  gA : goes p A = true
  gB : goes q B = true
  lA : A.length ≤ 6
  lB : B.length ≤ 6
theorem pacesB_ok (h0 : 1 ≤ P.1 ∧ P.1 ≤ 1000000000000) (h1 : 1 ≤ P.2 ∧ P.2 ≤ 1000000000000) : pacesB (fD P) = true ∧ pw (fD P) = true ∧ Pc P := by
  refine ⟨by simp [pacesB, fD, whole, h0, h1], by simp [fD, Lw.pw, pws], by omega, by omega, by omega, by omega⟩
theorem seen_at_ok (n : Nat) (S : So) (hP : Pc P) (R : Pr p q A B) : prg Ps gl (n + 7) i_seen_at [pairD p q A B, fD P] S = .ok (.lst ((evL P p q A B).map evD)) S := by
  rw [p_seen_at, runD_ap rfl]
  obtain ⟨L, e, v, hL, len⟩ := met_ok n S hP R.hA R.hB R.hp R.hq R.gA R.gB R.lA R.lB
  have c := cLoop_map (own := [2, 3]) (st := asg ct_seen_at_0) (x := ev (prg Ps gl (n + 6)) gl ce_seen_at_0) (F := prg Ps gl (n + 6)) (gl := gl) (ρ := [.sh (pairD p q A B), .sh (fD P), .no, .no]) (s := S)
    evFD (fun f => evD (evV P f)) L [] (by simp [lim]; omega) (fun f hf => by
      have vo := value_of_ok (n + 3) P f.1 (vF P f.1) S hP (v f hf)
      exact ⟨[.sh (pairD p q A B), .sh (fD P), .sh (FD f.1), .sh (kD f.2)], by simp [ct_seen_at_0, evFD], by simp [wipeR], by simp [ce_seen_at_0, vo, lim, evD, evV]⟩)
  have e3 : L.map (fun f => evD (evV P f)) = (evL P p q A B).map evD := by rw [← hL, List.map_map]; rfl
  rw [e3, List.nil_append] at c
  generalize (evL P p q A B).map evD = EE at *
  generalize L.map evFD = LL at *
  simp [d_seen_at, e, noOw, wipeR, backR, c]
theorem meetings_ok (n : Nat) (S : So) (h0 : 1 ≤ P.1 ∧ P.1 ≤ 1000000000000) (h1 : 1 ≤ P.2 ∧ P.2 ≤ 1000000000000) (R : Pr p q A B) : prg Ps gl (n + 8) i_meetings [pairD p q A B, fD P] S = .ok (.lst ((evL P p q A B).map evD)) S := by
  rw [p_meetings, runD_ap rfl]
  obtain ⟨a, b, c⟩ := pacesB_ok h0 h1
  have nw := need_walk_ok n _ _ S R.pw b
  rw [R.pr, a] at nw
  have s := seen_at_ok n S c R
  simp at nw
  simp [d_meetings, nw, s]
theorem cut_drop1 (xs : List D) : cutL xs (some 1) none = xs.drop 1 := by
  unfold cutL
  have : (some (1 : Int)) = some ((1 : Nat) : Int) := rfl
  rw [this, HT.sIx_none, HT.sIx_nat]
  cases xs with
  | nil => simp
  | cons a l => simp
theorem done_at_ok (n : Nat) (S : So) (h0 : 1 ≤ P.1 ∧ P.1 ≤ 1000000000000) (h1 : 1 ≤ P.2 ∧ P.2 ≤ 1000000000000) (R : Pr p q A B) : prg Ps gl (n + 8) i_done_at [pairD p q A B, fD P] S = .ok (.tup [.lst (((rows P p q A B).1.map (wD P)).drop 1), .lst (((rows P p q A B).2.map (wD P)).drop 1)]) S := by
  obtain ⟨a, b, c⟩ := pacesB_ok h0 h1
  have nw := need_walk_ok n _ _ S R.pw b
  rw [R.pr, a] at nw
  simp at nw
  have ta := times_at_ok (n + 4) S c.sm c.nn R.hA R.hp R.hB R.hq R.lA R.lB
  have I := rows_inv (P := P) c.nn R.hA R.hp R.hB R.hq
  generalize rows P p q A B = x at *
  have M := I.mt c R.hA R.hB R.hp R.hq R.lA R.lB
  have l1 := I.one.len
  have l2 := I.two.len
  have lA := R.lA
  have lB := R.lB
  have in1 : ∀ (l : List Fm), (∀ f ∈ l, bdF 100 f) → l.length ≤ 7 → ev (prg Ps gl (n + 7)) gl ce_done_at_0 [.sh (pairD p q A B), .sh (fD P), .sh (.lst (l.map fD)), .no] S = .ok (.lst ((l.drop 1).map (wD P))) [.sh (pairD p q A B), .sh (fD P), .sh (.lst (l.map fD)), .no] S := by
    intro l hb hl
    have wm := worth_map (n + 6) S P c [3] 3 ct_done_at_1 ce_done_at_1 (l.drop 1) (fun f hf => hb f (List.mem_of_mem_drop hf)) (by rw [List.length_drop]; omega) [.sh (pairD p q A B), .sh (fD P), .sh (.lst (l.map fD)), .no]
      (fun f => ⟨[.sh (pairD p q A B), .sh (fD P), .sh (.lst (l.map fD)), .sh (fD f)], by simp [ct_done_at_1], by simp [wipeR], fun r hr => by simp [ce_done_at_1, hr]⟩)
    rw [List.map_drop] at wm
    generalize l.map fD = LF at *
    simp at wm
    simp [ce_done_at_0, cut_drop1, noOw, wipeR, backR, wm]
  have c2 := cLoop_map (own := [2]) (st := asg ct_done_at_0) (x := ev (prg Ps gl (n + 7)) gl ce_done_at_0) (F := prg Ps gl (n + 7)) (gl := gl) (ρ := [.sh (pairD p q A B), .sh (fD P), .no, .no]) (s := S)
    (fun l : List Fm => .lst (l.map fD)) (fun l : List Fm => .lst ((l.drop 1).map (wD P))) [x.1, x.2] [] (by simp [lim]) (fun l hl => by
      have hb : (∀ f ∈ l, bdF 100 f) ∧ l.length ≤ 7 := by
        simp only [List.mem_cons, List.not_mem_nil, or_false] at hl
        rcases hl with rfl | rfl
        · exact ⟨M.b1, by omega⟩
        · exact ⟨M.b2, by omega⟩
      exact ⟨[.sh (pairD p q A B), .sh (fD P), .sh (.lst (l.map fD)), .no], by simp [ct_done_at_0], by simp [wipeR], in1 l hb.1 hb.2⟩)
  rw [p_done_at, runD_ap rfl]
  simp only [List.map_cons, List.map_nil, List.nil_append, List.map_drop] at c2
  generalize x.1.map fD = a1 at *
  generalize x.2.map fD = a2 at *
  simp at c2
  simp [d_done_at, nw, ta, noOw, wipeR, backR, c2, bltD]
theorem place_at_ok (n : Nat) (S : So) (w : Nat) (time : Int) (hw : w = 0 ∨ w = 1) (t0 : 0 ≤ time) (t1 : time < 2 ^ 80) (h0 : 1 ≤ P.1 ∧ P.1 ≤ 1000000000000) (h1 : 1 ≤ P.2 ∧ P.2 ≤ 1000000000000) (R : Pr p q A B) :
    prg Ps gl (n + 8) i_place_at [pairD p q A B, fD P, .int (w : Nat), .int time] S = .ok (if w = 0 then low (topF p A P P.1 time 0 (rows P p q A B).1) P.1 else low (topF q B P P.2 time 0 (rows P p q A B).2) P.2) S := by
  obtain ⟨a, b, c⟩ := pacesB_ok h0 h1
  have nw := need_walk_ok n _ _ S R.pw b
  rw [R.pr, a] at nw
  have nk := need_walker_ok (n + 4) (.int (w : Nat)) S rfl
  have nt := need_time_ok (n + 5) (.int time) S rfl
  rw [show timeB (.int time) = true by simp [timeB, t0]] at nt
  rw [show whole (.int (w : Nat)) 0 1 = true by rcases hw with e | e <;> subst e <;> rfl] at nk
  have ta := times_at_ok (n + 4) S c.sm c.nn R.hA R.hp R.hB R.hq R.lA R.lB
  have I := rows_inv (P := P) c.nn R.hA R.hp R.hB R.hq
  generalize rows P p q A B = x at *
  have M := I.mt c R.hA R.hB R.hp R.hq R.lA R.lB
  rw [p_place_at, runD_ap rfl]
  rcases hw with e | e
  · subst e
    have mo := moves_of_ok (n + 5) S x.1 R.hA R.gA R.lA I.one.len I.one.ne
    have pt := place_then_ok (n + 5) S P P.1 time x.1 c R.hA R.hp c.sm.1 t0 t1 I.one.ne M.b1
    have lo := lowest_ok (n + 5) (topF p A P P.1 time 0 x.1) P.1 S c.a0 c.sm.1
    generalize movesL p A 0 x.1 = m1 at *
    generalize topF p A P P.1 time 0 x.1 = t at *
    simp [fD, pairD] at nw nk nt pt mo ta
    simp [d_place_at, pairD, fD, nw, nk, nt, ta, mo, pt, lo]
  · subst e
    have mo := moves_of_ok (n + 5) S x.2 R.hB R.gB R.lB I.two.len I.two.ne
    have pt := place_then_ok (n + 5) S P P.2 time x.2 c R.hB R.hq c.sm.2 t0 t1 I.two.ne M.b2
    have lo := lowest_ok (n + 5) (topF q B P P.2 time 0 x.2) P.2 S c.b0 c.sm.2
    generalize movesL q B 0 x.2 = m1 at *
    generalize topF q B P P.2 time 0 x.2 = t at *
    simp [fD, pairD] at nw nk nt pt mo ta
    simp [d_place_at, pairD, fD, nw, nk, nt, ta, mo, pt, lo]
end
end Lw
end
section
set_option Elab.async false
set_option linter.all false
set_option maxRecDepth 100000
set_option maxHeartbeats 4000000
namespace Lw
open Pv PySem
theorem eqD_pairI (a b c d : Int) : eqD (.tup [.int a, .int b]) (.tup [.int c, .int d]) = some (a == c && b == d) := by
  have : eqD (.tup [.int a, .int b]) (.tup [.int c, .int d]) = some (a == c && (b == d && true)) := rfl
  simpa using this
theorem setIx_last (xs : List D) (o x : D) : setIx (xs ++ [o]) (.int (-1)) x = some (xs ++ [x]) := by
  have h : L2.ixN (xs ++ [o]).length (-1) = some xs.length := by
    unfold L2.ixN
    rw [List.length_append, List.length_singleton, if_neg (by omega), if_pos (by omega)]
    congr 1
    omega
  simp only [setIx, h, Option.map_some, Option.some.injEq]
  simp
/-- small paces, as the law takes them -/
structure P12 (P : Fm) : Prop where
  a0 : 1 ≤ P.1
  a1 : P.1 ≤ 12
  b0 : 1 ≤ P.2
  b1 : P.2 ≤ 12
theorem P12.pc {P : Fm} (h : P12 P) : Pc P := ⟨by have := h.a0; omega, by have := h.a1; omega, by have := h.b0; omega, by have := h.b1; omega⟩
theorem wrt_12 {P f : Fm} (h : P12 P) (b : bdF 100 f) : 0 ≤ wrt P f ∧ wrt P f ≤ 50000 := by
  obtain ⟨f0, f1, f2, f3⟩ := b
  have a := h.a0; have a1 := h.a1; have b := h.b0; have b1 := h.b1
  have x1 : 0 ≤ f.1 * P.1 := Int.mul_nonneg f0 (by omega)
  have x2 : 0 ≤ f.2 * P.2 := Int.mul_nonneg f2 (by omega)
  have x3 : f.1 * P.1 ≤ 2000 * 12 := Int.mul_le_mul (by omega) a1 (by omega) (by omega)
  have x4 : f.2 * P.2 ≤ 2000 * 12 := Int.mul_le_mul (by omega) b1 (by omega) (by omega)
  unfold wrt
  omega
theorem top_12 {P : Fm} {p : Int} {A : List D} {pace time : Int} (hP : P12 P) (hA : A.all leg = true) (hp : 0 ≤ p ∧ p ≤ 20) (hpace : 1 ≤ pace ∧ pace ≤ 12) (t0 : 0 ≤ time) (t1 : time ≤ 50000) (row : List Fm) (k : Nat) (hn : row ≠ []) (hb : ∀ f ∈ row, bdF 100 f) : (topF p A P pace time k row).natAbs ≤ 200000 := by
  rw [topF_cur row k hn]
  have c1 := curF_spot (P := P) (time := time) hA hp row k
  have c2 := curF_way (p := p) (A := A) (P := P) (time := time) row k
  have c3 := wrt_12 hP (hb _ (curF_mem (p := p) (A := A) (P := P) (time := time) row k hn))
  generalize (curF p A P time k row).2.1 = s at *
  generalize (curF p A P time k row).2.2 = w at *
  generalize wrt P (curF p A P time k row).1 = b at *
  have m0 : 0 ≤ s * pace := Int.mul_nonneg c1.1 (by omega)
  have m1 : s * pace ≤ 20 * 12 := Int.mul_le_mul c1.2 hpace.2 (by omega) (by omega)
  rcases c2 with e | e | e <;> subst e <;> omega
section
variable {P : Fm} {p q : Int} {A B : List D}
theorem gap_12 {x : List Fm × List Fm} (hP : P12 P) (M : Mt P p q A B x) {t : Int} (t0 : 0 ≤ t) (t1 : t ≤ 50000) : (gapF P p q A B x t).natAbs ≤ 10000000 := by
  have h1 := top_12 hP M.hA M.hp ⟨hP.a0, hP.a1⟩ t0 t1 x.1 0 M.n1 M.b1
  have h2 := top_12 hP M.hB M.hq ⟨hP.b0, hP.b1⟩ t0 t1 x.2 0 M.n2 M.b2
  have a0 := hP.a0; have a1 := hP.a1; have b0 := hP.b0; have b1 := hP.b1
  unfold gapF
  have e1 : (topF p A P P.1 t 0 x.1 * P.2).natAbs ≤ 200000 * 12 := by
    rw [Int.natAbs_mul]
    exact Nat.mul_le_mul h1 (by omega)
  have e2 : (topF q B P P.2 t 0 x.2 * P.1).natAbs ≤ 200000 * 12 := by
    rw [Int.natAbs_mul]
    exact Nat.mul_le_mul h2 (by omega)
  exact Nat.le_trans (Int.natAbs_sub_le _ _) (by omega)
/-- (begin, end or None, gap at first, gap at last) -/
def strD (g : Int → Int) : List Int → List D
  | m :: m2 :: r => .tup [.int m, .int m2, .int (g m), .int (g m2)] :: strD g (m2 :: r)
  | [m] => [.tup [.int m, .non, .int (g m), .int (g m)]]
  | [] => []
theorem gaps1 (n : Nat) (S : So) (x : List Fm × List Fm) (hP : P12 P) (M : Mt P p q A B x) (I : Inv2 P p q A B x) (lA : A.length ≤ 6) (lB : B.length ≤ 6) (v6 : D) : ∀ (ms : List Int) (acc : List D) (x4 x8 : Sl), (∀ m ∈ ms, 0 ≤ m ∧ m ≤ 50000) → acc.length + ms.length < 1000 →
    ∃ y4 y8, fLoop (asg lt__law_gaps_0) (exs (prg Ps gl (n + 2)) gl lb__law_gaps_0) (ms.map .int) [.sh (pairD p q A B), .sh (fD P), .sh (.lst [.lst (x.1.map (wD P)), .lst (x.2.map (wD P))]), .ow acc, x4, .no, .sh v6, .ow [], x8, .no] S = .ok .nx [.sh (pairD p q A B), .sh (fD P), .sh (.lst [.lst (x.1.map (wD P)), .lst (x.2.map (wD P))]), .ow (acc ++ ms.map fun m => .int (gapF P p q A B x m)), y4, .no, .sh v6, .ow [], y8, .no] S
  | [], acc, x4, x8, _, _ => ⟨x4, x8, by simp⟩
  | m :: ms, acc, x4, x8, hb, hl => by
    have bm := hb m (List.mem_cons_self ..)
    rw [List.length_cons] at hl
    obtain ⟨y4, y8, ih⟩ := gaps1 n S x hP M I lA lB v6 ms (acc ++ [.int (gapF P p q A B x m)]) (.sh (.int m)) (.sh (.int (topF p A P P.1 m 0 x.1 * P.2))) (fun a ha => hb a (List.mem_cons_of_mem _ ha)) (by rw [List.length_append, List.length_singleton]; omega)
    refine ⟨y4, y8, ?_⟩
    have c := hP.pc
    have z1 : ∀ f, x.1.head? = some f → wrt P f ≤ m := fun f hf => by rw [I.one.z] at hf; cases hf; unfold wrt; simp; omega
    have z2 : ∀ f, x.2.head? = some f → wrt P f ≤ m := fun f hf => by rw [I.two.z] at hf; cases hf; unfold wrt; simp; omega
    have T1 : ∀ t ∈ x.1.map (wrt P), t.natAbs < 2 ^ 89 := fun t ht => by
      obtain ⟨f, hf, rfl⟩ := List.mem_map.mp ht
      have := wrt_12 hP (M.b1 f hf)
      omega
    have T2 : ∀ t ∈ x.2.map (wrt P), t.natAbs < 2 ^ 89 := fun t ht => by
      obtain ⟨f, hf, rfl⟩ := List.mem_map.mp ht
      have := wrt_12 hP (M.b2 f hf)
      omega
    have e1 := law_top_ok n S P.1 m (x.1.map (wrt P)) M.hA lA M.hp (by rw [List.length_map]; exact I.one.len) (by simpa using M.n1) c.sm.1 (by omega) T1
    have e2 := law_top_ok n S P.2 m (x.2.map (wrt P)) M.hB lB M.hq (by rw [List.length_map]; exact I.two.len) (by simpa using M.n2) c.sm.2 (by omega) T2
    rw [topI_topF P P.1 m x.1 0 (fun j hj => (I.one.turn j hj).1) z1] at e1
    rw [topI_topF P P.2 m x.2 0 (fun j hj => (I.two.turn j hj).1) z2] at e2
    have w1 : (x.1.map (wrt P)).map D.int = x.1.map (wD P) := by rw [List.map_map]; rfl
    have w2 : (x.2.map (wrt P)).map D.int = x.2.map (wD P) := by rw [List.map_map]; rfl
    rw [w1] at e1
    rw [w2] at e2
    have s1 := top_bd (pace := P.1) c M.hA M.hp ⟨c.a0, c.a1⟩ bm.1 (by omega) x.1 0 M.n1 M.b1
    have s2 := top_bd (pace := P.2) c M.hB M.hq ⟨c.b0, c.b1⟩ bm.1 (by omega) x.2 0 M.n2 M.b2
    have o1 := okMul_sm s1 c.sm.2
    have o2 := okMul_sm s2 c.sm.1
    have la : acc.length < 16777216 := by omega
    unfold gapF at ih ⊢
    simp only [List.map_cons]
    generalize x.1.map (wD P) = r1 at *
    generalize x.2.map (wD P) = r2 at *
    generalize topF p A P P.1 m 0 x.1 = t1 at *
    generalize topF q B P P.2 m 0 x.2 = t2 at *
    simp [lt__law_gaps_0, lb__law_gaps_0, pairD, fD] at ih
    simp [floop_cons, lt__law_gaps_0, lb__law_gaps_0, pairD, fD, e1, e2, o1, o2, la, lim, ih]
theorem gaps2 (n : Nat) (S : So) (g : Int → Int) (Mk : List Int) (v0 v1 v2 x4 x8 : Sl) : ∀ (ms : List Int) (k : Nat) (acc : List D) (x5 x9 : Sl), Mk.drop k = ms → acc.length + ms.length < 1000 →
    ∃ y5 y9, fLoop (asg lt__law_gaps_1) (exs (prg Ps gl n) gl lb__law_gaps_1) ((List.range' k ms.length).map fun j => .int (j : Nat)) [v0, v1, v2, .ow (Mk.map fun m => .int (g m)), x4, x5, .sh (.lst (Mk.map .int)), .ow acc, x8, x9] S = .ok .nx [v0, v1, v2, .ow (Mk.map fun m => .int (g m)), x4, y5, .sh (.lst (Mk.map .int)), .ow (acc ++ strD g ms), x8, y9] S
  | [], k, acc, x5, x9, e, _ => ⟨x5, x9, by simp [strD]⟩
  | m :: ms, k, acc, x5, x9, e, hl => by
    have g0 : Mk[k]? = some m := by have := congrArg (·[0]?) e; simpa using this
    have e2 : Mk.drop (k + 1) = ms := by rw [← List.drop_drop, e]; rfl
    have hlen := congrArg List.length e2
    rw [List.length_drop] at hlen
    have hk : k < Mk.length := (List.getElem?_eq_some_iff.mp g0).1
    have i0 := ixD_natL (xs := Mk.map .int) (i := k) (d := .int m) (by rw [List.getElem?_map, g0]; rfl)
    have j0 := ixD_natL (xs := Mk.map fun m => .int (g m)) (i := k) (d := .int (g m)) (by rw [List.getElem?_map, g0]; rfl)
    have la : acc.length < 16777216 := by rw [List.length_cons] at hl; omega
    rw [List.length_cons, List.range'_succ, List.map_cons]
    cases ms with
    | nil =>
      have hlast : ((k : Int) + 1 == (Mk.length : Int)) = true := by rw [beq_iff_eq]; simp at hlen; omega
      refine ⟨.sh (.int (k : Nat)), .sh (.bl true), ?_⟩
      generalize hlm : Mk.length = LM at *
      have elm : (Mk.map D.int).length = LM := by rw [List.length_map]; exact hlm
      generalize Mk.map D.int = MI at *
      generalize (Mk.map fun m => D.int (g m)) = GI at *
      simp only [beq_iff_eq] at hlast
      simp [floop_cons, lt__law_gaps_1, lb__law_gaps_1, elm, hlast, i0, j0, la, lim, strD]
    | cons m2 r =>
      have g1 : Mk[k + 1]? = some m2 := by have := congrArg (·[0]?) e2; simpa using this
      have hk1 : k + 1 < Mk.length := (List.getElem?_eq_some_iff.mp g1).1
      have i1 := ixD_natL (xs := Mk.map .int) (i := k + 1) (d := .int m2) (by rw [List.getElem?_map, g1]; rfl)
      have j1 := ixD_natL (xs := Mk.map fun m => .int (g m)) (i := k + 1) (d := .int (g m2)) (by rw [List.getElem?_map, g1]; rfl)
      rw [Int.natCast_add] at i1 j1
      simp at i1 j1
      have hlast : ((k : Int) + 1 == (Mk.length : Int)) = false := by rw [beq_eq_false_iff_ne]; omega
      obtain ⟨y5, y9, ih⟩ := gaps2 n S g Mk v0 v1 v2 x4 x8 (m2 :: r) (k + 1) (acc ++ [.tup [.int m, .int m2, .int (g m), .int (g m2)]]) (.sh (.int (k : Nat))) (.sh (.bl false)) e2 (by simp at hl ⊢; omega)
      refine ⟨y5, y9, ?_⟩
      rw [strD]
      generalize hlm : Mk.length = LM at *
      have elm : (Mk.map D.int).length = LM := by rw [List.length_map]; exact hlm
      generalize Mk.map D.int = MI at *
      generalize (Mk.map fun m => D.int (g m)) = GI at *
      generalize strD g (m2 :: r) = SS at *
      simp [lt__law_gaps_1, lb__law_gaps_1] at ih
      simp [floop_cons, lt__law_gaps_1, lb__law_gaps_1, elm, hlast, i0, j0, i1, j1, la, lim, ih]
theorem insI_len (i : Int) : ∀ (m : List Int), (insI i m).length ≤ m.length + 1
  | [] => by simp [insI]
  | b :: m => by
    have := insI_len i m
    unfold insI
    split
    · simp
    · split
      · simp
      · simp; omega
theorem ssI_len : ∀ l : List Int, (ssI l).length ≤ l.length
  | [] => by simp [ssI]
  | a :: l => by
    have h1 := ssI_len l
    have h2 := insI_len a (ssI l)
    simp only [ssI, List.foldr_cons, List.length_cons] at *
    omega
theorem law_gaps_ok (n : Nat) (S : So) (hP : P12 P) (R : Pr p q A B) :
    prg Ps gl (n + 3) i__law_gaps [pairD p q A B, fD P] S = .ok (.lst (strD (gapF P p q A B (rows P p q A B)) (marks P (rows P p q A B)))) S := by
  have c := hP.pc
  have ck := clock_ok n P p q A B S c.sm c.nn R.hA R.hp R.hB R.hq R.lA R.lB
  have I := rows_inv (P := P) c.nn R.hA R.hp R.hB R.hq
  generalize rows P p q A B = x at *
  have M := I.mt c R.hA R.hB R.hp R.hq R.lA R.lB
  have len := rowlen I R.lA R.lB
  have ss := sst_ints (l := (x.1 ++ x.2).map (wrt P)) (by rw [List.length_map]; omega)
  have emk : ssI ((x.1 ++ x.2).map (wrt P)) = marks P x := rfl
  rw [emk] at ss
  have hmk : (marks P x).length ≤ 14 := by
    have := ssI_len ((x.1 ++ x.2).map (wrt P))
    rw [List.length_map] at this
    unfold marks
    omega
  have hbm : ∀ m ∈ marks P x, 0 ≤ m ∧ m ≤ 50000 := fun m hm => by
    obtain ⟨f, hf, rfl⟩ := mark_of.mp hm
    exact wrt_12 hP (hf.elim (M.b1 f) (M.b2 f))
  obtain ⟨y4, y8, g1⟩ := gaps1 n S x hP M I R.lA R.lB (.lst ((marks P x).map .int)) (marks P x) [] .no .no hbm (by simp; omega)
  obtain ⟨y5, y9, g2⟩ := gaps2 (n + 2) S (gapF P p q A B x) (marks P x) (.sh (pairD p q A B)) (.sh (fD P)) (.sh (.lst [.lst (x.1.map (wD P)), .lst (x.2.map (wD P))])) y4 y8 (marks P x) 0 [] .no .no rfl (by simp; omega)
  have hr := rng_n (n := (marks P x).length) (by omega)
  have ad : binD .add (.lst (x.1.map (wD P))) (.lst (x.2.map (wD P))) = some (.lst (((x.1 ++ x.2).map (wrt P)).map .int)) := by
    have e : ((x.1 ++ x.2).map (wrt P)).map D.int = x.1.map (wD P) ++ x.2.map (wD P) := by rw [List.map_map, List.map_append]; rfl
    rw [e]
    refine add_l ?_
    rw [List.length_append] at len
    rw [List.length_map, List.length_map]
    unfold lim
    omega
  rw [p__law_gaps, runD_ap rfl]
  generalize ((x.1 ++ x.2).map (wrt P)).map D.int = LI at *
  generalize x.1.map (wD P) = r1 at *
  generalize x.2.map (wD P) = r2 at *
  generalize marks P x = Mk at *
  generalize hlm : Mk.length = LM at *
  have elm : (Mk.map D.int).length = LM := by rw [List.length_map]; exact hlm
  generalize strD (gapF P p q A B x) Mk = SS at *
  generalize gapF P p q A B x = g at *
  rw [List.nil_append] at g1 g2
  generalize Mk.map D.int = MI at *
  generalize (Mk.map fun m => D.int (g m)) = GI at *
  try simp at g1
  try simp at g2
  simp [d__law_gaps, ck, ad, ss, lim, g1, elm, hr, g2]
end
end Lw
end
section
set_option Elab.async false
set_option linter.all false
set_option maxRecDepth 100000
set_option maxHeartbeats 4000000
namespace Lw
open Pv PySem
/-- the crossing, reckoned both ways -/
theorem cross_pure {P1 P2 s0 w0 B s1 w1 L m m2 t b g num whole h l : Int} (hP1 : 0 < P1) (hP2 : 0 < P2) (hm : m < m2)
    (eh : h = (s0 * P1 + w0 * (m - B)) * P2 - (s1 * P2 + w1 * (m - L)) * P1) (el : l = (s0 * P1 + w0 * (m2 - B)) * P2 - (s1 * P2 + w1 * (m2 - L)) * P1)
    (ha : (0 < h ∧ l < 0 ∧ whole = h - l ∧ num = m * whole + (m2 - m) * h) ∨ (h < 0 ∧ 0 < l ∧ whole = l - h ∧ num = m * whole + (m2 - m) * (-h)))
    (hg : 0 < g) (ht : num = t * g) (hb : whole = b * g) :
    0 < b ∧ m * b ≤ t ∧ t < m2 * b ∧ ((s0 * P1) * b + w0 * (t - B * b)) * P2 = ((s1 * P2) * b + w1 * (t - L * b)) * P1 := by
  have wp : 0 < whole := by rcases ha with h | h <;> omega
  have hb0 : 0 < b := by
    apply Int.lt_of_not_ge
    intro z
    have : b * g ≤ 0 := Int.mul_nonpos_of_nonpos_of_nonneg z (by omega)
    omega
  have k1 : l - h = (w0 * P2 - w1 * P1) * (m2 - m) := by rw [eh, el]; grind
  -- the part of the way
  have part : ∃ c, 0 < c ∧ c < whole ∧ num = m * whole + (m2 - m) * c ∧ (l - h) * c = -(h * whole) := by
    rcases ha with ⟨h1, h2, h3, h4⟩ | ⟨h1, h2, h3, h4⟩
    · exact ⟨h, h1, by omega, h4, by rw [h3]; grind⟩
    · exact ⟨-h, by omega, by omega, h4, by rw [h3]; grind⟩
  obtain ⟨c, c0, c1, hn, hc⟩ := part
  have e1 : (t - m * b) * whole = (m2 - m) * c * b := by
    have : (t - m * b) * whole = t * g * b - m * b * whole := by rw [hb]; grind
    rw [this, ← ht, hn]
    grind
  have e2 : (w0 * P2 - w1 * P1) * (t - m * b) = -(h * b) := by
    have : (w0 * P2 - w1 * P1) * (t - m * b) * whole = -(h * b) * whole := by
      have z : (w0 * P2 - w1 * P1) * (t - m * b) * whole = ((w0 * P2 - w1 * P1) * (m2 - m)) * c * b := by
        rw [Int.mul_assoc, e1]; grind
      rw [z, ← k1, hc]
      grind
    exact Int.eq_of_mul_eq_mul_right (by omega) this
  refine ⟨hb0, ?_, ?_, ?_⟩
  · have p : 0 ≤ (t - m * b) * whole := by
      rw [e1]
      exact Int.mul_nonneg (Int.mul_nonneg (by omega) (by omega)) (by omega)
    have : 0 ≤ t - m * b := by
      apply Int.le_of_not_gt
      intro z
      have := Int.mul_neg_of_neg_of_pos z wp
      omega
    omega
  · have e3 : (m2 * b - t) * whole = (m2 - m) * (whole - c) * b := by
      have : (m2 * b - t) * whole = (m2 - m) * b * whole - (t - m * b) * whole := by grind
      rw [this, e1]
      grind
    have p : 0 < (m2 * b - t) * whole := by
      rw [e3]
      exact Int.mul_pos (Int.mul_pos (by omega) (by omega)) hb0
    have : 0 < m2 * b - t := by
      apply Int.lt_of_not_ge
      intro z
      have := Int.mul_nonpos_of_nonpos_of_nonneg z (Int.le_of_lt wp)
      omega
    omega
  · have : ((s0 * P1) * b + w0 * (t - B * b)) * P2 - ((s1 * P2) * b + w1 * (t - L * b)) * P1 = h * b + (w0 * P2 - w1 * P1) * (t - m * b) := by rw [eh]; grind
    rw [e2] at this
    omega
section
variable {P : Fm} {p q : Int} {A B : List D}
def plc (P : Fm) (p : Int) (A : List D) (x : List Fm × List Fm) (τ : Int × Int) : D := low (topI p A (P.1 * τ.2) τ.1 0 (x.1.map fun f => wrt P f * τ.2)) (P.1 * τ.2)
theorem plc_mark {x : List Fm × List Fm} (I : Inv2 P p q A B x) (hP : Pc P) {m : Int} (h0 : 0 ≤ m) : plc P p A x (m, 1) = Wv P p A x m := by
  unfold plc Wv
  have z1 : ∀ f, x.1.head? = some f → wrt P f ≤ m := fun f hf => by rw [I.one.z] at hf; cases hf; unfold wrt; simp; omega
  have e : (x.1.map fun f => wrt P f * 1) = x.1.map (wrt P) := List.map_congr_left fun f _ => Int.mul_one _
  simp only [e, Int.mul_one]
  rw [topI_topF P P.1 m x.1 0 (fun j hj => (I.one.turn j hj).1) z1]
theorem plc_cross {x : List Fm × List Fm} (I : Inv2 P p q A B x) (M : Mt P p q A B x) {m m2 : Int} (hm : m < m2) (m0 : 0 ≤ m) (hno : ∀ f, f ∈ x.1 ∨ f ∈ x.2 → m < wrt P f → m2 ≤ wrt P f)
    (hs : sgn (gapF P p q A B x m) * sgn (gapF P p q A B x m2) < 0) {t b g : Int} (hg : 0 < g)
    (ht : m * (absI (gapF P p q A B x m) + absI (gapF P p q A B x m2)) + (m2 - m) * absI (gapF P p q A B x m) = t * g) (hb : absI (gapF P p q A B x m) + absI (gapF P p q A B x m2) = b * g) :
    0 < b ∧ plc P p A x (t, b) = Xv P p q A B x m := by
  have t1 := I.one.tl
  have t2 := I.two.tl
  simp at t1 t2
  obtain ⟨f1, r1, e1⟩ := List.exists_cons_of_ne_nil M.n1
  obtain ⟨f2, r2, e2⟩ := List.exists_cons_of_ne_nil M.n2
  have a0 := M.hP.a0
  have b0 := M.hP.b0
  have x1 : ∀ u, m ≤ u → u ≤ m2 → topF p A P P.1 u 0 x.1 = (curF p A P m 0 x.1).2.1 * P.1 + (curF p A P m 0 x.1).2.2 * (u - wrt P (curF p A P m 0 x.1).1) := fun u hu hu2 => by
    rw [e1] at t1
    have := topF_ext a0 (t := m) (u := u) hu r1 f1 0 t1 (fun h hh hl => Int.le_trans hu2 (hno h (.inl (by rw [e1]; exact hh)) hl))
    rw [← e1] at this
    exact this
  have x2 : ∀ u, m ≤ u → u ≤ m2 → topF q B P P.2 u 0 x.2 = (curF q B P m 0 x.2).2.1 * P.2 + (curF q B P m 0 x.2).2.2 * (u - wrt P (curF q B P m 0 x.2).1) := fun u hu hu2 => by
    rw [e2] at t2
    have := topF_ext b0 (t := m) (u := u) hu r2 f2 0 t2 (fun h hh hl => Int.le_trans hu2 (hno h (.inr (by rw [e2]; exact hh)) hl))
    rw [← e2] at this
    exact this
  have gv : ∀ u, m ≤ u → u ≤ m2 → gapF P p q A B x u = ((curF p A P m 0 x.1).2.1 * P.1 + (curF p A P m 0 x.1).2.2 * (u - wrt P (curF p A P m 0 x.1).1)) * P.2 - ((curF q B P m 0 x.2).2.1 * P.2 + (curF q B P m 0 x.2).2.2 * (u - wrt P (curF q B P m 0 x.2).1)) * P.1 := fun u hu hu2 => by
    unfold gapF; rw [x1 u hu hu2, x2 u hu hu2]
  have eh := gv m (by omega) (by omega)
  have el := gv m2 (by omega) (by omega)
  clear gv x1 x2
  have z1 : wrt P f1 ≤ m := by have := I.one.z; rw [e1] at this; cases this; unfold wrt; simp; omega
  have cur1 := t1
  rw [e1] at cur1
  have top := fun (hb0 : 0 < b) (h1 : m * b ≤ t) (h2 : t < m2 * b) => topI_ext (pace := P.1) hb0 h1 h2 r1 f1 0 cur1 z1 (fun h hh hl => hno h (.inl (by rw [e1]; exact hh)) hl)
  rw [← e1] at top
  generalize gapF P p q A B x m = h at *
  generalize gapF P p q A B x m2 = l at *
  have ha : (0 < h ∧ l < 0 ∧ absI h + absI l = h - l ∧ m * (absI h + absI l) + (m2 - m) * absI h = m * (absI h + absI l) + (m2 - m) * h) ∨ (h < 0 ∧ 0 < l ∧ absI h + absI l = l - h ∧ m * (absI h + absI l) + (m2 - m) * absI h = m * (absI h + absI l) + (m2 - m) * (-h)) := by
    have hsg : (0 < h ∧ l < 0) ∨ (h < 0 ∧ 0 < l) := by
      unfold sgn at hs
      by_cases c1 : 0 < h
      · rw [if_pos c1] at hs
        by_cases c2 : 0 < l
        · rw [if_pos c2] at hs; simp at hs
        · rw [if_neg c2] at hs
          by_cases c3 : l < 0
          · exact .inl ⟨c1, c3⟩
          · rw [if_neg c3] at hs; simp at hs
      · rw [if_neg c1] at hs
        by_cases c2 : h < 0
        · rw [if_pos c2] at hs
          by_cases c3 : 0 < l
          · exact .inr ⟨c2, c3⟩
          · rw [if_neg c3] at hs
            by_cases c4 : l < 0
            · rw [if_pos c4] at hs; simp at hs
            · rw [if_neg c4] at hs; simp at hs
        · rw [if_neg c2] at hs; simp at hs
    rcases hsg with ⟨h1, h2⟩ | ⟨h1, h2⟩
    · have a1 : absI h = h := by unfold absI; rw [if_neg (by omega)]
      have a2 : absI l = -l := by unfold absI; rw [if_pos h2]
      exact .inl ⟨h1, h2, by omega, by rw [a1]⟩
    · have a1 : absI h = -h := by unfold absI; rw [if_pos h1]
      have a2 : absI l = l := by unfold absI; rw [if_neg (by omega)]
      exact .inr ⟨h1, h2, by omega, by rw [a1]⟩
  obtain ⟨hb0, q1, q2, q3⟩ := cross_pure (s0 := (curF p A P m 0 x.1).2.1) (w0 := (curF p A P m 0 x.1).2.2) (B := wrt P (curF p A P m 0 x.1).1) (s1 := (curF q B P m 0 x.2).2.1) (w1 := (curF q B P m 0 x.2).2.2) (L := wrt P (curF q B P m 0 x.2).1) a0 b0 hm eh el ha hg ht hb
  refine ⟨hb0, ?_⟩
  have tp := top hb0 q1 q2
  unfold plc Xv
  simp only
  rw [tp]
  have way0 := curF_way (p := p) (A := A) (P := P) (time := m) x.1 0
  generalize (curF p A P m 0 x.1).2.1 = s0 at *
  generalize (curF p A P m 0 x.1).2.2 = w0 at *
  generalize wrt P (curF p A P m 0 x.1).1 = BB at *
  generalize (curF q B P m 0 x.2).2.1 = s1 at *
  generalize (curF q B P m 0 x.2).2.2 = w1 at *
  generalize wrt P (curF q B P m 0 x.2).1 = LL at *
  have pb : 0 < P.1 * b := Int.mul_pos a0 hb0
  clear tp top
  unfold crossV
  generalize P.1 = P1 at *
  generalize P.2 = P2 at *
  by_cases c0 : w0 = 0
  · rw [if_pos c0]
    subst c0
    refine low_eq pb (by decide) ?_
    grind
  · rw [if_neg c0]
    by_cases c1 : w1 = 0
    · rw [if_pos c1]
      subst c1
      refine low_eq pb (by decide) ?_
      have : (s0 * P1 * b + w0 * (t - BB * b)) * 1 * P2 = s1 * (P1 * b) * P2 := by grind
      exact Int.eq_of_mul_eq_mul_right (by omega) this
    · rw [if_neg c1]
      have key : (s0 * P1 * b + w0 * (t - BB * b)) * (w0 * P2 - w1 * P1) = (w0 * w1 * (BB - LL) - w1 * s0 * P1 + w0 * s1 * P2) * (P1 * b) := by grind
      have slope : l - h = (w0 * P2 - w1 * P1) * (m2 - m) := by rw [eh, el]; grind
      have k0 : w0 * P2 - w1 * P1 ≠ 0 := by
        intro z
        rw [z, Int.zero_mul] at slope
        rcases ha with h1 | h1 <;> omega
      by_cases ck : 0 < w0 * P2 - w1 * P1
      · rw [if_pos ck]
        exact low_eq pb ck key
      · rw [if_neg ck]
        refine low_eq pb (by omega) ?_
        rw [Int.mul_neg, key, Int.neg_mul]
end
end Lw
end
section
set_option Elab.async false
set_option linter.all false
set_option maxRecDepth 100000
set_option maxHeartbeats 4000000
namespace Lw
open Pv PySem
@[simp] theorem ixD_2 (a b c : D) (l : List D) : ixD (.tup (a :: b :: c :: l)) (.int 2) = some c := by
  have := ixD_nat (xs := a :: b :: c :: l) (i := 2) (d := c) rfl
  simpa using this
@[simp] theorem eqD_intS' (a b : Int) : eqD (.int a) (.int b) = some (a == b) := rfl
theorem sgn_bl0 (a : Int) : b2n (decide (0 < a)) - b2n (decide (a < 0)) = sgn a := by
  have := sign_bl a 0
  simpa using this
def stopD (m : Int) (e : D) (l : Int) : D := if l ≠ 0 then .tup [.int m, .int 1] else match e with | .non => .non | e => .tup [e, .int 1]
section
variable (n : Nat) (S : So) (v0 v1 : Sl) (m hm lm : Int) (x7 x8 x9 x10 x11 : Sl)
theorem tog_open (CD : List D) (τD aD bD : D) (e : D) (he : e = .non ∨ ∃ i, e = .int i) (h0 : sgn hm = 0) (hEm : eqD (.lst (CD ++ [.tup [τD, .tup [.int m, .int 1], aD, bD]])) (.lst []) = some false) :
    ∃ y9, exs (prg Ps gl n) gl lb__law_together_0 [v0, v1, .ow (CD ++ [.tup [τD, .tup [.int m, .int 1], aD, bD]]), .sh (.int m), .sh e, .sh (.int hm), .sh (.int lm), x7, x8, x9, x10, x11] S = .ok .nx [v0, v1, .ow (CD ++ [.tup [τD, stopD m e (sgn lm), aD, .int (sgn lm)]]), .sh (.int m), .sh e, .sh (.int hm), .sh (.int lm), .sh (.int (sgn hm)), .sh (.int (sgn lm)), y9, x10, x11] S := by
  have s1 := sgn_bl0 hm
  have s2 := sgn_bl0 lm
  have ep := eqD_pairI m 1 m 1
  simp at ep
  refine ⟨.sh (stopD m e (sgn lm)), ?_⟩
  by_cases l0 : sgn lm = 0
  · rcases he with rfl | ⟨i, rfl⟩
    · simp [lb__law_together_0, s1, s2, h0, hEm, ep, l0, stopD, ixD_last, setIx_last, lim]
    · simp [lb__law_together_0, s1, s2, h0, hEm, ep, l0, stopD, ixD_last, setIx_last, lim]
  · have l0' : (sgn lm == 0) = false := by rw [beq_eq_false_iff_ne]; exact l0
    simp [lb__law_together_0, s1, s2, h0, hEm, ep, l0, l0', stopD, ixD_last, setIx_last, lim]
theorem tog_first (e : D) (he : e = .non ∨ ∃ i, e = .int i) (h0 : sgn hm = 0) :
    ∃ y9, exs (prg Ps gl n) gl lb__law_together_0 [v0, v1, .ow [], .sh (.int m), .sh e, .sh (.int hm), .sh (.int lm), x7, x8, x9, x10, x11] S = .ok .nx [v0, v1, .ow [.tup [.tup [.int m, .int 1], stopD m e (sgn lm), .int 0, .int (sgn lm)]], .sh (.int m), .sh e, .sh (.int hm), .sh (.int lm), .sh (.int (sgn hm)), .sh (.int (sgn lm)), y9, x10, x11] S := by
  have s1 := sgn_bl0 hm
  have s2 := sgn_bl0 lm
  have em : eqD (.lst []) (.lst []) = some true := ints_nil []
  have il := ixD_last (xs := []) (d := .tup [.tup [.int m, .int 1], .tup [.int m, .int 1], .int 0, .int 0])
  have sl := fun x => setIx_last [] (.tup [.tup [.int m, .int 1], .tup [.int m, .int 1], .int 0, .int 0]) x
  simp at il sl
  refine ⟨.sh (stopD m e (sgn lm)), ?_⟩
  by_cases l0 : sgn lm = 0
  · rcases he with rfl | ⟨i, rfl⟩
    · simp [lb__law_together_0, s1, s2, h0, em, l0, stopD, il, sl, lim]
    · simp [lb__law_together_0, s1, s2, h0, em, l0, stopD, il, sl, lim]
  · have l0' : (sgn lm == 0) = false := by rw [beq_eq_false_iff_ne]; exact l0
    simp [lb__law_together_0, s1, s2, h0, em, l0, l0', stopD, il, sl, lim]
theorem tog_land (F : List D) (e : Int) (h0 : sgn hm ≠ 0) (l0 : sgn lm = 0) (hF : F.length < 16777216) :
    exs (prg Ps gl n) gl lb__law_together_0 [v0, v1, .ow F, .sh (.int m), .sh (.int e), .sh (.int hm), .sh (.int lm), x7, x8, x9, x10, x11] S = .ok .nx [v0, v1, .ow (F ++ [.tup [.tup [.int e, .int 1], .tup [.int e, .int 1], .int (sgn hm), .int 0]]), .sh (.int m), .sh (.int e), .sh (.int hm), .sh (.int lm), .sh (.int (sgn hm)), .sh (.int (sgn lm)), x9, x10, x11] S := by
  have s1 := sgn_bl0 hm
  have s2 := sgn_bl0 lm
  have h0' : (sgn hm == 0) = false := by rw [beq_eq_false_iff_ne]; exact h0
  simp [lb__law_together_0, s1, s2, h0', l0, lim, hF]
theorem tog_same (F : List D) (e : D) (h0 : sgn hm ≠ 0) (l0 : sgn lm = sgn hm) :
    exs (prg Ps gl n) gl lb__law_together_0 [v0, v1, .ow F, .sh (.int m), .sh e, .sh (.int hm), .sh (.int lm), x7, x8, x9, x10, x11] S = .ok .nx [v0, v1, .ow F, .sh (.int m), .sh e, .sh (.int hm), .sh (.int lm), .sh (.int (sgn hm)), .sh (.int (sgn lm)), x9, x10, x11] S := by
  have s1 := sgn_bl0 hm
  have s2 := sgn_bl0 lm
  have h0' : (sgn hm == 0) = false := by rw [beq_eq_false_iff_ne]; exact h0
  have l0' : (sgn lm == 0) = false := by rw [l0]; exact h0'
  simp [lb__law_together_0, s1, s2, h0', l0', l0]
theorem tog_cross (F : List D) (e : Int) (h0 : sgn hm ≠ 0) (l0 : sgn lm ≠ 0) (hl : sgn hm ≠ sgn lm) (hF : F.length < 16777216) (bm : m.natAbs ≤ 50000) (be : e.natAbs ≤ 50000) (bh : hm.natAbs ≤ 10000000) (bl : lm.natAbs ≤ 10000000) :
    ∃ (y10 y11 : Sl), exs (prg Ps gl (n + 1)) gl lb__law_together_0 [v0, v1, .ow F, .sh (.int m), .sh (.int e), .sh (.int hm), .sh (.int lm), x7, x8, x9, x10, x11] S = .ok .nx [v0, v1, .ow (F ++ [.tup [low (m * (absI hm + absI lm) + (e - m) * absI hm) (absI hm + absI lm), low (m * (absI hm + absI lm) + (e - m) * absI hm) (absI hm + absI lm), .int (sgn hm), .int (sgn lm)]]), .sh (.int m), .sh (.int e), .sh (.int hm), .sh (.int lm), .sh (.int (sgn hm)), .sh (.int (sgn lm)), x9, y10, y11] S := by
  have s1 := sgn_bl0 hm
  have s2 := sgn_bl0 lm
  have h0' : (sgn hm == 0) = false := by rw [beq_eq_false_iff_ne]; exact h0
  have l0' : (sgn lm == 0) = false := by rw [beq_eq_false_iff_ne]; exact l0
  have hl' : (sgn hm == sgn lm) = false := by rw [beq_eq_false_iff_ne]; exact hl
  have p1 : 0 < absI hm := by
    unfold absI
    unfold sgn at h0
    split
    · omega
    · split at h0 <;> omega
  have p2 : 0 < absI lm := by
    unfold absI
    unfold sgn at l0
    split
    · omega
    · split at l0 <;> omega
  have a1 : absI hm ≤ 10000000 := by unfold absI; split <;> omega
  have a2 : absI lm ≤ 10000000 := by unfold absI; split <;> omega
  have o1 : okMul m (absI hm + absI lm) = true := okMul_sm (by unfold sm; omega) (by unfold sm; omega)
  have o2 : okMul (e - m) (absI hm) = true := okMul_sm (by unfold sm; omega) (by unfold sm; omega)
  have sw : sm (absI hm + absI lm) := by unfold sm; omega
  have b1 : (m * (absI hm + absI lm)).natAbs ≤ 50000 * 20000000 := by rw [Int.natAbs_mul]; exact Nat.mul_le_mul bm (by omega)
  have b2 : ((e - m) * absI hm).natAbs ≤ 100000 * 10000000 := by rw [Int.natAbs_mul]; exact Nat.mul_le_mul (by omega) (by omega)
  have st : sm (m * (absI hm + absI lm) + (e - m) * absI hm) := by
    unfold sm
    exact Nat.lt_of_le_of_lt (Int.natAbs_add_le _ _) (by omega)
  have lo := law_lowest_ok n (m * (absI hm + absI lm) + (e - m) * absI hm) (absI hm + absI lm) S (by omega) sw st
  refine ⟨.sh (.int (absI hm + absI lm)), .sh (low (m * (absI hm + absI lm) + (e - m) * absI hm) (absI hm + absI lm)), ?_⟩
  generalize low (m * (absI hm + absI lm) + (e - m) * absI hm) (absI hm + absI lm) = LL at *
  simp [lb__law_together_0, s1, s2, h0', l0', hl', o1, o2, lo, lim, hF]
end
end Lw
end
section
set_option Elab.async false
set_option linter.all false
set_option maxRecDepth 100000
set_option maxHeartbeats 4000000
namespace Lw
open Pv PySem
theorem ev_cons2 (g : Int → Int) (W X : Int → D) (side : Int) (bg : Option D) (m : Int) (ms : List Int) : evs g W X side bg (m :: ms) =
    ((if sgn (g m) = 0 ∧ nxt g m ms ≠ 0 then [((if sgn (g m) = 0 then some (bg.getD (W m)) else bg).getD .non, decide (side = -nxt g m ms))] else []) ++ (if sgn (g m) * nxt g m ms < 0 then [(X m, true)] else [])) ++ evs g W X (if nxt g m ms ≠ 0 then nxt g m ms else if sgn (g m) ≠ 0 then sgn (g m) else side) (if sgn (g m) = 0 ∧ nxt g m ms ≠ 0 then none else (if sgn (g m) = 0 then some (bg.getD (W m)) else bg)) ms := by
  rw [ev_cons]
  cases bg <;> rfl
structure En where
  t : Int × Int
  stop : D
  a : Int
  b : Int
def trD (e : En) : D := .tup [.tup [.int e.t.1, .int e.t.2], e.stop, .int e.a, .int e.b]
structure EnOk (e : En) : Prop where
  d0 : 0 < e.t.2
  d1 : e.t.2 < 2 ^ 40
  n : e.t.1.natAbs < 2 ^ 60
  s : e.stop = .non ∨ ∃ i j, e.stop = .tup [.int i, .int j]
theorem tr_ne (es : List En) (h : ∀ e ∈ es, EnOk e) (hn : es ≠ []) : eqD (.lst (es.map trD)) (.lst []) = some false := by
  have hp : pv (es.length + 10) 3 (.lst (es.map trD)) = true := by
    simp only [pv, Bool.and_eq_true, decide_eq_true_eq, List.all_eq_true, List.length_map]
    refine ⟨by omega, fun d hd => ?_⟩
    obtain ⟨e, he, rfl⟩ := List.mem_map.mp hd
    rcases (h e he).s with s | ⟨i, j, s⟩ <;> simp [trD, s, pv, pvF]
  rw [eqD_lst_nil hp (by omega)]
  cases es with
  | nil => exact (hn rfl).elim
  | cons a l => rfl
section
variable {P : Fm} {p q : Int} {A B : List D}
def enV (P : Fm) (p : Int) (A : List D) (x : List Fm × List Fm) (e : En) : D × Bool := (plc P p A x e.t, decide (e.a ≠ 0 ∧ e.a = -e.b))
/-- neighbours among the marks -/
def Nx (P : Fm) (x : List Fm × List Fm) : List Int → Prop
  | m :: m2 :: r => (m < m2 ∧ ∀ f, f ∈ x.1 ∨ f ∈ x.2 → m < wrt P f → m2 ≤ wrt P f) ∧ Nx P x (m2 :: r)
  | _ => True
theorem nx_marks {x : List Fm × List Fm} : Nx P x (marks P x) := by
  have : ∀ (n k : Nat), (marks P x).length - k = n → Nx P x ((marks P x).drop k) := by
    intro n
    induction n with
    | zero => intro k hk; rw [List.drop_eq_nil_of_le (by omega)]; trivial
    | succ n ih =>
      intro k hk
      have hk1 : k < (marks P x).length := by omega
      rw [List.drop_eq_getElem_cons hk1]
      by_cases h : k + 1 < (marks P x).length
      · have e := ih (k + 1) (by omega)
        rw [List.drop_eq_getElem_cons h] at e ⊢
        exact ⟨marks_next (List.getElem?_eq_getElem hk1) (List.getElem?_eq_getElem h), e⟩
      · rw [List.drop_eq_nil_of_le (by omega)]; trivial
  exact this _ 0 rfl
/-- what the law's list holds ahead of some marks: closed ones, and perhaps an open one -/
def Jt (P : Fm) (p q : Int) (A B : List D) (x : List Fm × List Fm) (side : Int) (bg : Option D) (C : List En) (O : Option En) : List Int → Prop
  | [] => (bg = none ∧ O = none) ∨ ∃ b o, bg = some b ∧ O = some o ∧ plc P p A x o.t = b ∧ o.b = 0
  | m :: _ => (sgn (gapF P p q A B x m) ≠ 0 ∧ bg = none ∧ O = none) ∨
    (sgn (gapF P p q A B x m) = 0 ∧ ∃ o, O = some o ∧ o.stop = .tup [.int m, .int 1] ∧ o.a = side ∧ o.b = 0 ∧ plc P p A x o.t = bg.getD (Wv P p A x m)) ∨
    (sgn (gapF P p q A B x m) = 0 ∧ C = [] ∧ O = none ∧ bg = none ∧ side = 0)
theorem enOk_int {m : Int} (h : m.natAbs ≤ 50000) (s : D) (hs : s = .non ∨ ∃ i j, s = .tup [.int i, .int j]) (a b : Int) : EnOk ⟨(m, 1), s, a, b⟩ := ⟨show (0 : Int) < 1 by decide, show (1 : Int) < 2 ^ 40 by decide, by simp only; omega, hs⟩
theorem stop_ok (m : Int) (e : D) (l : Int) (he : e = .non ∨ ∃ i, e = .int i) : stopD m e l = .non ∨ ∃ i j, stopD m e l = .tup [.int i, .int j] := by
  unfold stopD
  split
  · exact .inr ⟨m, 1, rfl⟩
  · rcases he with rfl | ⟨i, rfl⟩
    · exact .inl rfl
    · exact .inr ⟨i, 1, rfl⟩
theorem tog_loop (n : Nat) (S : So) (x : List Fm × List Fm) (hP : P12 P) (M : Mt P p q A B x) (I : Inv2 P p q A B x) (v0 v1 : Sl) : ∀ (ms : List Int) (side : Int) (bg : Option D) (C : List En) (O : Option En) (x3 x4 x5 x6 x7 x8 x9 x10 x11 : Sl), (∀ m ∈ ms, 0 ≤ m ∧ m ≤ 50000) → Nx P x ms → (∀ e ∈ C, EnOk e) → (∀ e, O = some e → EnOk e) → C.length + ms.length < 1000 → (side = 1 ∨ side = 0 ∨ side = -1) → Jt P p q A B x side bg C O ms →
    ∃ (es : List En) (y3 y4 y5 y6 y7 y8 y9 y10 y11 : Sl), fLoop (asg lt__law_together_0) (exs (prg Ps gl (n + 1)) gl lb__law_together_0) (strD (gapF P p q A B x) ms) [v0, v1, .ow ((C ++ O.toList).map trD), x3, x4, x5, x6, x7, x8, x9, x10, x11] S = .ok .nx [v0, v1, .ow (es.map trD), y3, y4, y5, y6, y7, y8, y9, y10, y11] S ∧
      (∀ e ∈ es, EnOk e) ∧ es.length < 1001 ∧ es.map (enV P p A x) = C.map (enV P p A x) ++ evs (gapF P p q A B x) (Wv P p A x) (Xv P p q A B x) side bg ms
  | [], side, bg, C, O, x3, x4, x5, x6, x7, x8, x9, x10, x11, hb, nx, hC, hO, hl, hs, J => by
    refine ⟨C ++ O.toList, x3, x4, x5, x6, x7, x8, x9, x10, x11, by simp [strD], ?_, ?_, ?_⟩
    · intro e he
      rcases List.mem_append.mp he with h | h
      · exact hC e h
      · exact hO e (by simpa using h)
    · rw [List.length_append]
      have : O.toList.length ≤ 1 := by cases O <;> simp
      simp at hl
      omega
    · rcases J with ⟨rfl, rfl⟩ | ⟨b, o, rfl, rfl, h1, h2⟩
      · simp [evs]
      · simp [evs, enV, h1, h2]
  | m :: ms, side, bg, C, O, x3, x4, x5, x6, x7, x8, x9, x10, x11, hb, nx, hC, hO, hl, hs, J => by
    have bm := hb m (List.mem_cons_self ..)
    rw [List.length_cons] at hl
    have bg12 := gap_12 hP M bm.1 bm.2
    -- the item and what comes behind it
    have it : ∃ (e : D) (lm : Int), strD (gapF P p q A B x) (m :: ms) = .tup [.int m, e, .int (gapF P p q A B x m), .int lm] :: strD (gapF P p q A B x) ms ∧ sgn lm = nxt (gapF P p q A B x) m ms ∧ lm.natAbs ≤ 10000000 ∧ ((ms = [] ∧ e = .non ∧ lm = gapF P p q A B x m) ∨ ∃ m2 r, ms = m2 :: r ∧ e = .int m2 ∧ lm = gapF P p q A B x m2) := by
      cases ms with
      | nil => exact ⟨.non, gapF P p q A B x m, rfl, rfl, bg12, .inl ⟨rfl, rfl, rfl⟩⟩
      | cons m2 r =>
        have b2 := hb m2 (by simp)
        exact ⟨.int m2, gapF P p q A B x m2, rfl, rfl, gap_12 hP M b2.1 b2.2, .inr ⟨m2, r, rfl, rfl, rfl⟩⟩
    obtain ⟨e, lm, hit, hsl, blm, hcase⟩ := it
    have he : e = .non ∨ ∃ i, e = .int i := by
      rcases hcase with ⟨_, h, _⟩ | ⟨m2, _, _, h, _⟩
      · exact .inl h
      · exact .inr ⟨m2, h⟩
    have nx2 : Nx P x ms := by
      cases ms with
      | nil => trivial
      | cons m2 r => exact nx.2
    rw [hit, ev_cons2, ← hsl]
    -- a turn, then the rest
    have go : ∀ (C' : List En) (O' : Option En) (side' : Int) (bg' : Option D) (y7 y8 y9 y10 y11 : Sl), (∀ e ∈ C', EnOk e) → (∀ e, O' = some e → EnOk e) → C'.length + ms.length < 1000 → (side' = 1 ∨ side' = 0 ∨ side' = -1) → Jt P p q A B x side' bg' C' O' ms →
        exs (prg Ps gl (n + 1)) gl lb__law_together_0 [v0, v1, .ow ((C ++ O.toList).map trD), .sh (.int m), .sh e, .sh (.int (gapF P p q A B x m)), .sh (.int lm), x7, x8, x9, x10, x11] S = .ok .nx [v0, v1, .ow ((C' ++ O'.toList).map trD), .sh (.int m), .sh e, .sh (.int (gapF P p q A B x m)), .sh (.int lm), y7, y8, y9, y10, y11] S →
        ∃ (es : List En) (z3 z4 z5 z6 z7 z8 z9 z10 z11 : Sl), fLoop (asg lt__law_together_0) (exs (prg Ps gl (n + 1)) gl lb__law_together_0) (.tup [.int m, e, .int (gapF P p q A B x m), .int lm] :: strD (gapF P p q A B x) ms) [v0, v1, .ow ((C ++ O.toList).map trD), x3, x4, x5, x6, x7, x8, x9, x10, x11] S = .ok .nx [v0, v1, .ow (es.map trD), z3, z4, z5, z6, z7, z8, z9, z10, z11] S ∧
          (∀ e ∈ es, EnOk e) ∧ es.length < 1001 ∧ es.map (enV P p A x) = C'.map (enV P p A x) ++ evs (gapF P p q A B x) (Wv P p A x) (Xv P p q A B x) side' bg' ms := by
      intro C' O' side' bg' y7 y8 y9 y10 y11 h1 h2 h3 h4 h5 hq
      obtain ⟨es, z3, z4, z5, z6, z7, z8, z9, z10, z11, q2, k1, k2, k3⟩ := tog_loop n S x hP M I v0 v1 ms side' bg' C' O' (.sh (.int m)) (.sh e) (.sh (.int (gapF P p q A B x m))) (.sh (.int lm)) y7 y8 y9 y10 y11 (fun a ha => hb a (List.mem_cons_of_mem _ ha)) nx2 h1 h2 h3 h4 h5
      refine ⟨es, z3, z4, z5, z6, z7, z8, z9, z10, z11, ?_, k1, k2, k3⟩
      generalize (C ++ O.toList).map trD = L1 at *
      generalize (C' ++ O'.toList).map trD = L2 at *
      generalize strD (gapF P p q A B x) ms = SS at *
      simp [lt__law_together_0] at q2
      simp [floop_cons, lt__law_together_0, bind_eq hq, q2]
    have hnext : ∀ (side' : Int) (bg' : Option D) (C' : List En) (O' : Option En), sgn lm ≠ 0 → bg' = none → O' = none → (ms = [] → sgn lm = sgn (gapF P p q A B x m)) → Jt P p q A B x side' bg' C' O' ms := by
      intro side' bg' C' O' h1 h2 h3 _
      rcases hcase with ⟨e1, _, _⟩ | ⟨m2, r, e1, _, e3⟩
      · subst e1; exact .inl ⟨h2, h3⟩
      · subst e1; exact .inl ⟨by rw [← e3]; exact h1, h2, h3⟩
    by_cases h0 : sgn (gapF P p q A B x m) = 0
    · -- together at the mark
      have fst : ∃ (o : En) (y9 : Sl), EnOk o ∧ o.a = side ∧ plc P p A x o.t = bg.getD (Wv P p A x m) ∧ o.stop = stopD m e (sgn lm) ∧ o.b = sgn lm ∧
          exs (prg Ps gl (n + 1)) gl lb__law_together_0 [v0, v1, .ow ((C ++ O.toList).map trD), .sh (.int m), .sh e, .sh (.int (gapF P p q A B x m)), .sh (.int lm), x7, x8, x9, x10, x11] S = .ok .nx [v0, v1, .ow ((C ++ [o]).map trD), .sh (.int m), .sh e, .sh (.int (gapF P p q A B x m)), .sh (.int lm), .sh (.int (sgn (gapF P p q A B x m))), .sh (.int (sgn lm)), y9, x10, x11] S := by
        rcases J with ⟨z, _⟩ | ⟨_, o, rfl, o1, o2, o3, o4⟩ | ⟨_, rfl, rfl, rfl, rfl⟩
        · exact (z h0).elim
        · have ok := hO o rfl
          have em := tr_ne (C ++ [o]) (fun a ha => by
            rcases List.mem_append.mp ha with h | h
            · exact hC a h
            · rw [List.mem_singleton] at h; subst h; exact ok) (by simp)
          rw [List.map_append] at em
          simp only [List.map_cons, List.map_nil, trD, o1] at em
          obtain ⟨y9, qq⟩ := tog_open (n + 1) S v0 v1 m (gapF P p q A B x m) lm x7 x8 x9 x10 x11 (C.map trD) (.tup [.int o.t.1, .int o.t.2]) (.int o.a) (.int o.b) e he h0 em
          refine ⟨⟨o.t, stopD m e (sgn lm), o.a, sgn lm⟩, y9, ⟨ok.d0, ok.d1, ok.n, stop_ok m e _ he⟩, o2, o4, rfl, rfl, ?_⟩
          rw [Option.toList_some, List.map_append, List.map_append]
          simp only [List.map_cons, List.map_nil, trD, o1]
          exact qq
        · obtain ⟨y9, qq⟩ := tog_first (n + 1) S v0 v1 m (gapF P p q A B x m) lm x7 x8 x9 x10 x11 e he h0
          exact ⟨⟨(m, 1), stopD m e (sgn lm), 0, sgn lm⟩, y9, enOk_int (by omega) _ (stop_ok m e _ he) _ _, rfl, plc_mark I M.hP bm.1, rfl, rfl, qq⟩
      obtain ⟨o, y9, ok, oa, op, os, ob, qq⟩ := fst
      have hbg1 : bg.getD (Wv P p A x m) = plc P p A x o.t := op.symm
      simp only [h0, true_and, if_true, hbg1, Int.zero_mul, Int.lt_irrefl, if_false, List.append_nil, not_true_eq_false, ne_eq, Option.getD_some]
      by_cases l0 : sgn lm = 0
      · -- it goes on
        simp only [l0, not_true_eq_false, if_false, List.nil_append]
        obtain ⟨es, z3, z4, z5, z6, z7, z8, z9, z10, z11, k0, k1, k2, k3⟩ := go C (some o) side (some (plc P p A x o.t)) _ _ _ _ _ hC (fun a ha => by cases ha; exact ok) (by omega) hs (by
          rcases hcase with ⟨e1, _, _⟩ | ⟨m2, r, e1, e2, e3⟩
          · subst e1; exact .inr ⟨_, o, rfl, rfl, rfl, by rw [ob, l0]⟩
          · subst e1
            refine .inr (.inl ⟨by rw [← e3]; exact l0, o, rfl, ?_, oa, by rw [ob, l0], rfl⟩)
            rw [os, e2]
            simp [stopD, l0]) qq
        exact ⟨es, z3, z4, z5, z6, z7, z8, z9, z10, z11, k0, k1, k2, k3⟩
      · -- it ends here
        simp only [l0, not_false_eq_true, if_true]
        obtain ⟨es, z3, z4, z5, z6, z7, z8, z9, z10, z11, k0, k1, k2, k3⟩ := go (C ++ [o]) none (sgn lm) none _ _ _ _ _ (fun a ha => by
            rcases List.mem_append.mp ha with h | h
            · exact hC a h
            · rw [List.mem_singleton] at h; subst h; exact ok) (fun a ha => by cases ha) (by rw [List.length_append, List.length_singleton]; omega) (sgn_cases lm) (hnext _ _ _ _ l0 rfl rfl (fun z => by
              rcases hcase with ⟨_, _, e3⟩ | ⟨m2, r, e1, _, _⟩
              · rw [e3]
              · rw [e1] at z; cases z)) (by rw [Option.toList_none, List.append_nil]; exact qq)
        refine ⟨es, z3, z4, z5, z6, z7, z8, z9, z10, z11, k0, k1, k2, ?_⟩
        rw [k3, List.map_append, List.append_assoc]
        congr 1
        have : enV P p A x o = (plc P p A x o.t, decide (side = -sgn lm)) := by
          unfold enV
          rw [oa, ob]
          congr 1
          by_cases c : side = -sgn lm
          · have : side ≠ 0 := by omega
            simp [c]; omega
          · simp [c]
        rw [List.map_cons, List.map_nil, this]
    · -- apart at the mark
      have J' : bg = none ∧ O = none := by
        rcases J with ⟨_, h1, h2⟩ | ⟨z, _⟩ | ⟨z, _⟩
        · exact ⟨h1, h2⟩
        · exact (h0 z).elim
        · exact (h0 z).elim
      obtain ⟨rfl, rfl⟩ := J'
      simp only [h0, false_and, if_false, List.nil_append, ne_eq, not_false_eq_true, if_true]
      have lenC : (C.map trD).length < 16777216 := by rw [List.length_map]; omega
      rcases hcase with ⟨e1, e2, e3⟩ | ⟨m2, r, e1, e2, e3⟩
      · -- the last
        subst e1 e2
        have l0 : sgn lm = sgn (gapF P p q A B x m) := by rw [e3]
        have qq := tog_same (n + 1) S v0 v1 m (gapF P p q A B x m) lm x7 x8 x9 x10 x11 (C.map trD) .non h0 l0
        have np : ¬ sgn (gapF P p q A B x m) * sgn lm < 0 := by
          rw [l0]; intro z
          rcases sgn_cases (gapF P p q A B x m) with w | w | w <;> rw [w] at z <;> simp at z
        simp only [np, if_false, List.nil_append]
        have := go C none (if ¬sgn lm = 0 then sgn lm else sgn (gapF P p q A B x m)) none _ _ _ _ _ hC (fun a ha => by cases ha) (by omega) (by split <;> exact sgn_cases _) (.inl ⟨rfl, rfl⟩) (by rw [Option.toList_none, List.append_nil]; exact qq)
        exact this
      · subst e1 e2
        obtain ⟨⟨hlt, hno⟩, _⟩ := nx
        have bm2 := hb m2 (by simp)
        by_cases l0 : sgn lm = 0
        · -- they come together at the next mark
          have qq := tog_land (n + 1) S v0 v1 m (gapF P p q A B x m) lm x7 x8 x9 x10 x11 (C.map trD) m2 h0 l0 lenC
          simp only [l0, Int.mul_zero, Int.lt_irrefl, if_false, List.nil_append, not_true_eq_false]
          have okn : EnOk ⟨(m2, 1), .tup [.int m2, .int 1], sgn (gapF P p q A B x m), 0⟩ := enOk_int (by omega) _ (.inr ⟨m2, 1, rfl⟩) _ _
          have := go C (some ⟨(m2, 1), .tup [.int m2, .int 1], sgn (gapF P p q A B x m), 0⟩) (sgn (gapF P p q A B x m)) none _ _ _ _ _ hC (fun a ha => by cases ha; exact okn) (by omega) (sgn_cases _)
            (.inr (.inl ⟨by rw [← e3]; exact l0, _, rfl, rfl, rfl, rfl, plc_mark I M.hP bm2.1⟩)) (by
              rw [Option.toList_none, List.append_nil, Option.toList_some, List.map_append]
              exact qq)
          exact this
        · by_cases hl2 : sgn lm = sgn (gapF P p q A B x m)
          · have qq := tog_same (n + 1) S v0 v1 m (gapF P p q A B x m) lm x7 x8 x9 x10 x11 (C.map trD) (.int m2) h0 hl2
            have np : ¬ sgn (gapF P p q A B x m) * sgn lm < 0 := by
              rw [hl2]; intro z
              rcases sgn_cases (gapF P p q A B x m) with w | w | w <;> rw [w] at z <;> simp at z
            simp only [np, if_false, List.nil_append, l0, not_false_eq_true, if_true]
            have := go C none (sgn lm) none _ _ _ _ _ hC (fun a ha => by cases ha) (by omega) (sgn_cases _) (hnext _ _ _ _ l0 rfl rfl (fun z => by cases z)) (by rw [Option.toList_none, List.append_nil]; exact qq)
            exact this
          · -- they cross
            obtain ⟨y10, y11, qq⟩ := tog_cross n S v0 v1 m (gapF P p q A B x m) lm x7 x8 x9 x10 x11 (C.map trD) m2 h0 l0 (fun z => hl2 z.symm) lenC (by omega) (by omega) bg12 blm
            have neg : sgn (gapF P p q A B x m) * sgn lm < 0 := by
              rcases sgn_cases (gapF P p q A B x m) with w | w | w <;> rcases sgn_cases lm with u | u | u <;> rw [w, u] at hl2 ⊢ <;> simp_all
            have opp : sgn (gapF P p q A B x m) = -sgn lm := by
              rcases sgn_cases (gapF P p q A B x m) with w | w | w <;> rcases sgn_cases lm with u | u | u <;> rw [w, u] at neg ⊢ <;> simp at neg ⊢
            simp only [neg, if_true, l0, not_false_eq_true]
            subst e3
            have wp : 0 < absI (gapF P p q A B x m) + absI (gapF P p q A B x m2) := by
              have n0 : gapF P p q A B x m ≠ 0 := fun z => h0 (by rw [z]; rfl)
              unfold absI
              split <;> split <;> omega
            have gp := Int.gcd_pos_of_ne_zero_right (m * (absI (gapF P p q A B x m) + absI (gapF P p q A B x m2)) + (m2 - m) * absI (gapF P p q A B x m)) (show absI (gapF P p q A B x m) + absI (gapF P p q A B x m2) ≠ 0 by omega)
            have dl := Int.gcd_dvd_left (m * (absI (gapF P p q A B x m) + absI (gapF P p q A B x m2)) + (m2 - m) * absI (gapF P p q A B x m)) (absI (gapF P p q A B x m) + absI (gapF P p q A B x m2))
            have dr := Int.gcd_dvd_right (m * (absI (gapF P p q A B x m) + absI (gapF P p q A B x m2)) + (m2 - m) * absI (gapF P p q A B x m)) (absI (gapF P p q A B x m) + absI (gapF P p q A B x m2))
            have pc := plc_cross I M hlt bm.1 hno neg (g := ((Int.gcd (m * (absI (gapF P p q A B x m) + absI (gapF P p q A B x m2)) + (m2 - m) * absI (gapF P p q A B x m)) (absI (gapF P p q A B x m) + absI (gapF P p q A B x m2)) : Nat) : Int)) (by omega) (Int.ediv_mul_cancel dl).symm (Int.ediv_mul_cancel dr).symm
            have okn : EnOk ⟨((m * (absI (gapF P p q A B x m) + absI (gapF P p q A B x m2)) + (m2 - m) * absI (gapF P p q A B x m)) / ((Int.gcd (m * (absI (gapF P p q A B x m) + absI (gapF P p q A B x m2)) + (m2 - m) * absI (gapF P p q A B x m)) (absI (gapF P p q A B x m) + absI (gapF P p q A B x m2)) : Nat) : Int), (absI (gapF P p q A B x m) + absI (gapF P p q A B x m2)) / ((Int.gcd (m * (absI (gapF P p q A B x m) + absI (gapF P p q A B x m2)) + (m2 - m) * absI (gapF P p q A B x m)) (absI (gapF P p q A B x m) + absI (gapF P p q A B x m2)) : Nat) : Int)), low (m * (absI (gapF P p q A B x m) + absI (gapF P p q A B x m2)) + (m2 - m) * absI (gapF P p q A B x m)) (absI (gapF P p q A B x m) + absI (gapF P p q A B x m2)), sgn (gapF P p q A B x m), sgn (gapF P p q A B x m2)⟩ := by
              have a1 : absI (gapF P p q A B x m) ≤ 10000000 ∧ 0 ≤ absI (gapF P p q A B x m) := by unfold absI; split <;> omega
              have a2 : absI (gapF P p q A B x m2) ≤ 10000000 ∧ 0 ≤ absI (gapF P p q A B x m2) := by unfold absI; split <;> omega
              refine ⟨pc.1, ?_, ?_, .inr ⟨_, _, rfl⟩⟩
              · have := Int.ediv_le_self ((Int.gcd (m * (absI (gapF P p q A B x m) + absI (gapF P p q A B x m2)) + (m2 - m) * absI (gapF P p q A B x m)) (absI (gapF P p q A B x m) + absI (gapF P p q A B x m2)) : Nat) : Int) (Int.le_of_lt wp)
                simp only
                omega
              · simp only
                refine Nat.lt_of_le_of_lt (Int.natAbs_ediv_le_natAbs _ _) ?_
                have b1 : (m * (absI (gapF P p q A B x m) + absI (gapF P p q A B x m2))).natAbs ≤ 50000 * 20000000 := by rw [Int.natAbs_mul]; exact Nat.mul_le_mul (by omega) (by omega)
                have b2 : ((m2 - m) * absI (gapF P p q A B x m)).natAbs ≤ 100000 * 10000000 := by rw [Int.natAbs_mul]; exact Nat.mul_le_mul (by omega) (by omega)
                exact Nat.lt_of_le_of_lt (Int.natAbs_add_le _ _) (by omega)
            have hv : enV P p A x ⟨((m * (absI (gapF P p q A B x m) + absI (gapF P p q A B x m2)) + (m2 - m) * absI (gapF P p q A B x m)) / ((Int.gcd (m * (absI (gapF P p q A B x m) + absI (gapF P p q A B x m2)) + (m2 - m) * absI (gapF P p q A B x m)) (absI (gapF P p q A B x m) + absI (gapF P p q A B x m2)) : Nat) : Int), (absI (gapF P p q A B x m) + absI (gapF P p q A B x m2)) / ((Int.gcd (m * (absI (gapF P p q A B x m) + absI (gapF P p q A B x m2)) + (m2 - m) * absI (gapF P p q A B x m)) (absI (gapF P p q A B x m) + absI (gapF P p q A B x m2)) : Nat) : Int)), low (m * (absI (gapF P p q A B x m) + absI (gapF P p q A B x m2)) + (m2 - m) * absI (gapF P p q A B x m)) (absI (gapF P p q A B x m) + absI (gapF P p q A B x m2)), sgn (gapF P p q A B x m), sgn (gapF P p q A B x m2)⟩ = (Xv P p q A B x m, true) := by
              unfold enV
              rw [pc.2]
              simp only [h0, opp, ne_eq, not_false_eq_true, true_and, decide_true]
              congr 1
              simp
              omega
            obtain ⟨es, z3, z4, z5, z6, z7, z8, z9, z10, z11, k0, k1, k2, k3⟩ := go (C ++ [_]) none (sgn (gapF P p q A B x m2)) none _ _ _ _ _ (fun a ha => by
                rcases List.mem_append.mp ha with h | h
                · exact hC a h
                · rw [List.mem_singleton] at h; subst h; exact okn) (fun a ha => by cases ha) (by rw [List.length_append, List.length_singleton]; simp at hl ⊢; omega) (sgn_cases _) (hnext _ _ _ _ l0 rfl rfl (fun z => by cases z)) (by
                  rw [Option.toList_none, List.append_nil, List.append_nil, List.map_append]
                  exact qq)
            refine ⟨es, z3, z4, z5, z6, z7, z8, z9, z10, z11, k0, k1, k2, ?_⟩
            rw [k3, List.map_append, List.append_assoc, List.map_cons, List.map_nil, hv]
end
end Lw
end
section
set_option Elab.async false
set_option linter.all false
set_option maxRecDepth 100000
set_option maxHeartbeats 4000000
namespace Lw
open Pv PySem
section
variable {P : Fm} {p q : Int} {A B : List D}
theorem together_ok (n : Nat) (S : So) (hP : P12 P) (R : Pr p q A B) : ∃ es : List En,
    prg Ps gl (n + 4) i__law_together [pairD p q A B, fD P] S = .ok (.lst (es.map trD)) S ∧ (∀ e ∈ es, EnOk e) ∧ es.length < 1001 ∧ es.map (enV P p A (rows P p q A B)) = evL P p q A B := by
  have c := hP.pc
  have lg := law_gaps_ok n S hP R
  have hE : evL P p q A B = evs (gapF P p q A B (rows P p q A B)) (Wv P p A (rows P p q A B)) (Xv P p q A B (rows P p q A B)) 0 none (marks P (rows P p q A B)) := rfl
  rw [hE]
  have I := rows_inv (P := P) c.nn R.hA R.hp R.hB R.hq
  generalize rows P p q A B = x at *
  have M := I.mt c R.hA R.hB R.hp R.hq R.lA R.lB
  have len := rowlen I R.lA R.lB
  have hmk : (marks P x).length ≤ 14 := by
    have := ssI_len ((x.1 ++ x.2).map (wrt P))
    rw [List.length_map] at this
    unfold marks
    omega
  have hbm : ∀ m ∈ marks P x, 0 ≤ m ∧ m ≤ 50000 := fun m hm => by
    obtain ⟨f, hf, rfl⟩ := mark_of.mp hm
    exact wrt_12 hP (hf.elim (M.b1 f) (M.b2 f))
  obtain ⟨es, y3, y4, y5, y6, y7, y8, y9, y10, y11, lo, k1, k2, k3⟩ := tog_loop (n + 2) S x hP M I (.sh (pairD p q A B)) (.sh (fD P)) (marks P x) 0 none [] none .no .no .no .no .no .no .no .no .no hbm nx_marks (fun e he => by cases he) (fun e he => by cases he) (by simp; omega) (.inr (.inl rfl)) (by
    cases marks P x with
    | nil => exact .inl ⟨rfl, rfl⟩
    | cons m r =>
      by_cases h : sgn (gapF P p q A B x m) = 0
      · exact .inr (.inr ⟨h, rfl, rfl, rfl, rfl⟩)
      · exact .inl ⟨h, rfl, rfl⟩)
  refine ⟨es, ?_, k1, k2, by simpa using k3⟩
  rw [p__law_together, runD_ap rfl]
  generalize strD (gapF P p q A B x) (marks P x) = SS at *
  simp at lo
  simp [d__law_together, lg, lim, lo]
theorem topI_bd {pace time K : Int} (hA : A.all leg = true) (hp : 0 ≤ p ∧ p ≤ 20) (h0 : 0 ≤ pace) : ∀ (T : List Int) (k : Nat), (∀ t ∈ T, (t.natAbs : Int) ≤ K) → 0 ≤ K → ((topI p A pace time k T).natAbs : Int) ≤ 20 * pace + (time.natAbs : Int) + K
  | [], k, _, hK => by simp only [topI]; omega
  | [t], k, _, hK => by
    have hs := spot_bd (p := p) hA hp.1 hp.2 k
    have m0 : 0 ≤ spot p A k * pace := Int.mul_nonneg hs.1 h0
    have m1 : spot p A k * pace ≤ 20 * pace := Int.mul_le_mul_of_nonneg_right hs.2 h0
    simp only [topI]
    omega
  | t :: u :: r, k, hT, hK => by
    rw [topI]
    split
    · have hs := spot_bd (p := p) hA hp.1 hp.2 k
      have m0 : 0 ≤ spot p A k * pace := Int.mul_nonneg hs.1 h0
      have m1 : spot p A k * pace ≤ 20 * pace := Int.mul_le_mul_of_nonneg_right hs.2 h0
      have ht := hT t (by simp)
      generalize spot p A k * pace = sp at *
      rcases sgn_cases (spot p A (k + 1) - spot p A k) with e | e | e <;> rw [e] <;> omega
    · exact topI_bd hA hp h0 (u :: r) (k + 1) (fun a ha => hT a (List.mem_cons_of_mem _ ha)) hK
theorem law_place_ok (n : Nat) (S : So) (hP : P12 P) (R : Pr p q A B) (t b : Int) (hb : 0 < b) (hb2 : b < 2 ^ 40) (ht : t.natAbs < 2 ^ 60) :
    prg Ps gl (n + 3) i__law_place [pairD p q A B, fD P, .tup [.int t, .int b]] S = .ok (plc P p A (rows P p q A B) (t, b)) S := by
  have c := hP.pc
  have ck := clock_ok n P p q A B S c.sm c.nn R.hA R.hp R.hB R.hq R.lA R.lB
  have I := rows_inv (P := P) c.nn R.hA R.hp R.hB R.hq
  generalize rows P p q A B = x at *
  have M := I.mt c R.hA R.hB R.hp R.hq R.lA R.lB
  have a0 := hP.a0
  have a1 := hP.a1
  have sb : sm b := by unfold sm; omega
  have o1 : okMul P.1 b = true := okMul_sm c.sm.1 sb
  have pb1 : P.1 * b ≤ 12 * 2 ^ 40 := Int.mul_le_mul a1 (by omega) (by omega) (by omega)
  have pb0 : 0 < P.1 * b := Int.mul_pos (by omega) hb
  have spb : sm (P.1 * b) := by unfold sm; omega
  have wb : ∀ f ∈ x.1, 0 ≤ wrt P f * b ∧ wrt P f * b ≤ 50000 * 2 ^ 40 := fun f hf => by
    have := wrt_12 hP (M.b1 f hf)
    exact ⟨Int.mul_nonneg this.1 (by omega), Int.mul_le_mul this.2 (by omega) (by omega) (by omega)⟩
  have hT : ∀ u ∈ x.1.map (fun f => wrt P f * b), ((u.natAbs : Nat) : Int) ≤ 50000 * 2 ^ 40 := fun u hu => by
    obtain ⟨f, hf, rfl⟩ := List.mem_map.mp hu
    have := wb f hf
    omega
  have lt := law_top_ok (n := n) (S := S) (p := p) (A := A) (P.1 * b) t (x.1.map fun f => wrt P f * b) R.hA R.lA R.hp (by rw [List.length_map]; exact I.one.len) (by simpa using I.one.ne) spb (by omega) (fun u hu => by have := hT u hu; omega)
  have bd := topI_bd (p := p) (A := A) (pace := P.1 * b) (time := t) R.hA R.hp (by omega) (x.1.map fun f => wrt P f * b) 0 hT (by omega)
  have lo := law_lowest_ok (n + 1) (topI p A (P.1 * b) t 0 (x.1.map fun f => wrt P f * b)) (P.1 * b) S pb0 spb (by unfold sm; omega)
  have wm := cLoop_map (own := [7]) (st := asg ct__law_place_0) (x := ev (prg Ps gl (n + 2)) gl ce__law_place_0) (F := prg Ps gl (n + 2)) (gl := gl) (ρ := [.sh (pairD p q A B), .sh (fD P), .sh (.tup [.int t, .int b]), .no, .no, .sh (.lst [.lst (x.1.map (wD P)), .lst (x.2.map (wD P))]), .sh (.int b), .no]) (s := S) (wD P) (fun f => .int (wrt P f * b)) x.1 [] (by have := I.one.len; have := R.lA; simp [lim]; omega) (fun f hf => by
    have o2 : okMul (wrt P f) b = true := okMul_sm (by have := wrt_12 hP (M.b1 f hf); unfold sm; omega) sb
    exact ⟨[.sh (pairD p q A B), .sh (fD P), .sh (.tup [.int t, .int b]), .no, .no, .sh (.lst [.lst (x.1.map (wD P)), .lst (x.2.map (wD P))]), .sh (.int b), .sh (wD P f)], by simp [ct__law_place_0], by simp [wipeR], by simp [ce__law_place_0, wD, o2]⟩)
  have em : (x.1.map fun f => wrt P f * b).map D.int = x.1.map fun f => .int (wrt P f * b) := by rw [List.map_map]; rfl
  rw [em] at lt
  rw [List.nil_append] at wm
  unfold plc
  simp only
  rw [p__law_place, runD_ap rfl]
  generalize topI p A (P.1 * b) t 0 (x.1.map fun f => wrt P f * b) = tt at *
  generalize (x.1.map fun f => D.int (wrt P f * b)) = rb at *
  generalize low tt (P.1 * b) = LL at *
  generalize x.1.map (wD P) = r1 at *
  generalize x.2.map (wD P) = r2 at *
  simp [pairD, fD] at ck wm lt lo
  simp [d__law_place, pairD, fD, ck, noOw, wipeR, backR, wm, o1, lt, lo, lim]
theorem met_turns (n : Nat) (S : So) (hP : P12 P) (R : Pr p q A B) : ∀ (es : List En) (acc : List D) (x3 x4 x5 x6 x7 : Sl), (∀ e ∈ es, EnOk e) → acc.length + es.length < 2000 →
    ∃ y3 y4 y5 y6 y7, fLoop (asg lt__law_met_0) (exs (prg Ps gl (n + 3)) gl lb__law_met_0) (es.map trD) [.sh (pairD p q A B), .sh (fD P), .ow acc, x3, x4, x5, x6, x7] S = .ok .nx [.sh (pairD p q A B), .sh (fD P), .ow (acc ++ (es.map (enV P p A (rows P p q A B))).map evD), y3, y4, y5, y6, y7] S
  | [], acc, x3, x4, x5, x6, x7, _, _ => ⟨x3, x4, x5, x6, x7, by simp⟩
  | e :: es, acc, x3, x4, x5, x6, x7, h, hl => by
    have he := h e (List.mem_cons_self ..)
    rw [List.length_cons] at hl
    have lp := law_place_ok n S hP R e.t.1 e.t.2 he.d0 he.d1 he.n
    have la : acc.length < 16777216 := by omega
    obtain ⟨y3, y4, y5, y6, y7, ih⟩ := met_turns n S hP R es (acc ++ [evD (enV P p A (rows P p q A B) e)]) (.sh (.tup [.int e.t.1, .int e.t.2])) (.sh e.stop) (.sh (.int e.a)) (.sh (.int e.b)) (.sh (kD (decide (e.a ≠ 0 ∧ e.a = -e.b)))) (fun a ha => h a (List.mem_cons_of_mem _ ha)) (by rw [List.length_append, List.length_singleton]; omega)
    refine ⟨y3, y4, y5, y6, y7, ?_⟩
    rw [List.map_cons, List.map_cons, List.map_cons]
    have ev1 : evD (enV P p A (rows P p q A B) e) = .tup [plc P p A (rows P p q A B) e.t, kD (decide (e.a ≠ 0 ∧ e.a = -e.b))] := rfl
    rw [ev1] at ih ⊢
    generalize plc P p A (rows P p q A B) e.t = pl at *
    generalize (es.map (enV P p A (rows P p q A B))).map evD = EE at *
    generalize es.map trD = TT at *
    by_cases c0 : e.a = 0
    · simp [lt__law_met_0, lb__law_met_0, kD, c0] at ih
      simp [floop_cons, lt__law_met_0, lb__law_met_0, trD, c0, lp, lim, la, kD, ih]
    · have c0' : (e.a == 0) = false := by rw [beq_eq_false_iff_ne]; exact c0
      by_cases c1 : e.a = -e.b
      · have c1' : (e.a == -e.b) = true := by rw [beq_iff_eq]; exact c1
        have d : decide (e.a ≠ 0 ∧ e.a = -e.b) = true := by rw [decide_eq_true_eq]; exact ⟨c0, c1⟩
        rw [d] at ih ⊢
        simp [lt__law_met_0, lb__law_met_0, kD] at ih
        simp only [floop_cons, lt__law_met_0, lb__law_met_0, trD]
        simp [c0', c1', lp, lim, la, kD, ih]
      · have c1' : (e.a == -e.b) = false := by rw [beq_eq_false_iff_ne]; exact c1
        have d : decide (e.a ≠ 0 ∧ e.a = -e.b) = false := by rw [decide_eq_false_iff_not]; exact fun z => c1 z.2
        rw [d] at ih ⊢
        simp [lt__law_met_0, lb__law_met_0, kD] at ih
        simp only [floop_cons, lt__law_met_0, lb__law_met_0, trD]
        simp [c0', c1', lp, lim, la, kD, ih]
theorem law_met_ok (n : Nat) (S : So) (hP : P12 P) (R : Pr p q A B) : prg Ps gl (n + 5) i__law_met [pairD p q A B, fD P] S = .ok (.lst ((evL P p q A B).map evD)) S := by
  obtain ⟨es, e1, e2, e3, e4⟩ := together_ok n S hP R
  obtain ⟨y3, y4, y5, y6, y7, lo⟩ := met_turns (n + 1) S hP R es [] .no .no .no .no .no e2 (by simp; omega)
  rw [e4, List.nil_append] at lo
  rw [p__law_met, runD_ap rfl]
  generalize (evL P p q A B).map evD = EE at *
  generalize es.map trD = TT at *
  simp [d__law_met, e1, lim, lo]
end
end Lw
end
section
set_option Elab.async false
set_option linter.all false
set_option maxRecDepth 100000
set_option maxHeartbeats 4000000
namespace Lw
open Pv PySem
section
variable {P : Fm} {p q : Int} {A B : List D} {f : Int}
abbrev up (P : Fm) (f : Int) : Fm := (P.1 * f, P.2 * f)
theorem wrt_up (g : Fm) : wrt (up P f) g = wrt P g * f := by unfold wrt; simp only; grind
theorem lt_up (hf : 0 < f) {a b : Int} : a * f < b * f ↔ a < b := ⟨fun h => Int.lt_of_mul_lt_mul_right h (by omega), fun h => Int.mul_lt_mul_of_pos_right h hf⟩
theorem step_up (hf : 0 < f) (w : Nat) (row oth : List Fm) : stepF w (up P f) p A row oth = stepF w P p A row oth := by
  unfold stepF
  simp only [wrt_up, lt_up hf]
theorem pass_up (hf : 0 < f) (x : List Fm × List Fm) : pass (up P f) p q A B x = pass P p q A B x := by
  unfold pass
  simp only [step_up hf]
theorem fix_up (hf : 0 < f) : ∀ (n : Nat) (x : List Fm × List Fm), fixF (up P f) p q A B n x = fixF P p q A B n x
  | 0, x => rfl
  | n + 1, x => by
    unfold fixF
    rw [pass_up hf, fix_up hf n]
theorem rows_up (hf : 0 < f) : rows (up P f) p q A B = rows P p q A B := fix_up hf 20 _
theorem topF_up (hf : 0 < f) (pace t : Int) : ∀ (row : List Fm) (k : Nat), topF p A (up P f) (pace * f) (t * f) k row = topF p A P pace t k row * f
  | [], k => by simp [topF]
  | [g], k => by simp only [topF]; rw [Int.mul_assoc]
  | g :: h :: r, k => by
    simp only [topF, wrt_up, lt_up hf]
    split
    · generalize sgn (spot p A (k + 1) - spot p A k) = w
      grind
    · exact topF_up hf pace t (h :: r) (k + 1)
theorem curF_up (hf : 0 < f) (t : Int) : ∀ (row : List Fm) (k : Nat), curF p A (up P f) (t * f) k row = curF p A P t k row
  | [], k => rfl
  | [g], k => rfl
  | g :: h :: r, k => by
    simp only [curF, wrt_up, lt_up hf]
    split
    · rfl
    · exact curF_up hf t (h :: r) (k + 1)
theorem sgn_up (hf : 0 < f) (i : Int) : sgn (i * f) = sgn i := by
  unfold sgn
  have h1 : 0 < i * f ↔ 0 < i := by have := lt_up (a := 0) (b := i) hf; simpa using this
  have h2 : i * f < 0 ↔ i < 0 := by have := lt_up (a := i) (b := 0) hf; simpa using this
  simp only [h1, h2]
theorem gap_up (hf : 0 < f) (x : List Fm × List Fm) (t : Int) : sgn (gapF (up P f) p q A B x (t * f)) = sgn (gapF P p q A B x t) := by
  have : gapF (up P f) p q A B x (t * f) = gapF P p q A B x t * f * f := by
    unfold gapF
    rw [topF_up hf P.1 t x.1 0, topF_up hf P.2 t x.2 0]
    simp only
    generalize topF p A P P.1 t 0 x.1 = a
    generalize topF q B P P.2 t 0 x.2 = b
    grind
  rw [this, sgn_up hf, sgn_up hf]
theorem Wv_up (hf : 0 < f) (x : List Fm × List Fm) (t : Int) : Wv (up P f) p A x (t * f) = Wv P p A x t := by
  unfold Wv
  rw [topF_up hf P.1 t x.1 0, Int.mul_comm _ f]
  simp only
  rw [Int.mul_comm P.1 f, low_scale _ _ _ hf]
theorem Xv_up (hf : 0 < f) (x : List Fm × List Fm) (t : Int) : Xv (up P f) p q A B x (t * f) = Xv P p q A B x t := by
  unfold Xv
  rw [curF_up hf t x.1 0, curF_up hf t x.2 0, wrt_up, wrt_up]
  generalize (curF p A P t 0 x.1).2.1 = s0
  generalize (curF p A P t 0 x.1).2.2 = w0
  generalize wrt P (curF p A P t 0 x.1).1 = BB
  generalize (curF q B P t 0 x.2).2.1 = s1
  generalize (curF q B P t 0 x.2).2.2 = w1
  generalize wrt P (curF q B P t 0 x.2).1 = LL
  unfold crossV
  simp only
  generalize P.1 = P1
  generalize P.2 = P2
  have eD : w0 * (P2 * f) - w1 * (P1 * f) = f * (w0 * P2 - w1 * P1) := by grind
  have eN : w0 * w1 * (BB * f - LL * f) - w1 * s0 * (P1 * f) + w0 * s1 * (P2 * f) = f * (w0 * w1 * (BB - LL) - w1 * s0 * P1 + w0 * s1 * P2) := by grind
  have hpos : 0 < f * (w0 * P2 - w1 * P1) ↔ 0 < w0 * P2 - w1 * P1 := by
    have := lt_up (a := 0) (b := w0 * P2 - w1 * P1) hf
    rw [Int.mul_comm f]
    simpa using this
  rw [eD, eN]
  simp only [hpos]
  have e1 := low_scale f (w0 * w1 * (BB - LL) - w1 * s0 * P1 + w0 * s1 * P2) (w0 * P2 - w1 * P1) hf
  have e2 := low_scale f (-(w0 * w1 * (BB - LL) - w1 * s0 * P1 + w0 * s1 * P2)) (-(w0 * P2 - w1 * P1)) hf
  rw [Int.mul_neg, Int.mul_neg] at e2
  rw [e1, e2]
theorem evs_up {g g' : Int → Int} {W W' X X' : Int → D} (hg : ∀ m, sgn (g' (m * f)) = sgn (g m)) (hW : ∀ m, W' (m * f) = W m) (hX : ∀ m, X' (m * f) = X m) : ∀ (ms : List Int) (side : Int) (bg : Option D), evs g' W' X' side bg (ms.map (· * f)) = evs g W X side bg ms
  | [], side, bg => by cases bg <;> rfl
  | m :: ms, side, bg => by
    rw [List.map_cons, ev_cons2, ev_cons2, evs_up hg hW hX ms]
    have hn : nxt g' (m * f) (ms.map (· * f)) = nxt g m ms := by
      cases ms with
      | nil => exact hg m
      | cons a r => exact hg a
    rw [hn, hg, hW, hX]
theorem insI_up (hf : 0 < f) (i : Int) : ∀ l : List Int, insI (i * f) (l.map (· * f)) = (insI i l).map (· * f)
  | [] => rfl
  | a :: l => by
    simp only [List.map_cons, insI, lt_up hf]
    have he : i * f = a * f ↔ i = a := ⟨fun h => Int.eq_of_mul_eq_mul_right (by omega) h, fun h => by rw [h]⟩
    simp only [he]
    split
    · rfl
    · split
      · rfl
      · rw [List.map_cons, insI_up hf i l]
theorem ssI_up (hf : 0 < f) : ∀ l : List Int, ssI (l.map (· * f)) = (ssI l).map (· * f)
  | [] => rfl
  | a :: l => by
    have := ssI_up hf l
    simp only [ssI, List.map_cons, List.foldr_cons] at this ⊢
    rw [this, insI_up hf]
theorem evL_up (hf : 0 < f) : evL (up P f) p q A B = evL P p q A B := by
  unfold evL
  simp only
  rw [rows_up hf]
  have em : marks (up P f) (rows P p q A B) = (marks P (rows P p q A B)).map (· * f) := by
    unfold marks
    rw [← ssI_up hf, List.map_map]
    congr 1
    exact List.map_congr_left fun g _ => wrt_up g
  rw [em]
  exact evs_up (fun m => gap_up hf _ m) (fun m => Wv_up hf _ m) (fun m => Xv_up hf _ m) _ _ _
end
mutual
theorem eqv_refl0 : ∀ x : PyData, x.canLay0 = true → PyData.eqv x x = true
  | .none, _ => by simp [PyData.eqv]
  | .bool _, _ => by simp [PyData.eqv]
  | .int _, _ => by simp [PyData.eqv]
  | .str _, _ => by simp [PyData.eqv]
  | .list xs, h => by simp only [PyData.eqv]; exact eqvAll_refl0 xs (by simpa [PyData.canLay0] using h)
  | .tuple xs, h => by simp only [PyData.eqv]; exact eqvAll_refl0 xs (by simpa [PyData.canLay0] using h)
  | .dict _, h => by simp [PyData.canLay0] at h
theorem eqvAll_refl0 : ∀ xs : List PyData, PyData.canLayAll0 xs = true → PyData.eqvAll xs xs = true
  | [], _ => by simp [PyData.eqvAll]
  | x :: xs, h => by
    simp only [PyData.canLayAll0, Bool.and_eq_true] at h
    simp [PyData.eqvAll, eqv_refl0 x h.1, eqvAll_refl0 xs h.2]
end
theorem eqD_self {w d : Nat} {v : D} (h : pv w d v = true) (hd : d ≤ 64) : eqD v v = some true := by
  obtain ⟨x, h1, h2, h3⟩ := pv_py h
  unfold eqD
  simp only [h1, shaped_of h2 (by omega), Bool.and_self, if_pos, eqv_refl0 x h2]
theorem low_pv (w d : Nat) (t b : Int) (hw : 2 ≤ w) : pv w (d + 1) (low t b) = true := by
  cases d <;> simp [low, pv, pvF, hw]
theorem evD_self (L : List (D × Bool)) (h : ∀ e ∈ L, ∃ t b, e.1 = low t b) : eqD (.lst (L.map evD)) (.lst (L.map evD)) = some true := by
  have hp : pv (L.length + 2) 3 (.lst (L.map evD)) = true := by
    simp only [pv, Bool.and_eq_true, decide_eq_true_eq, List.all_eq_true, List.length_map]
    refine ⟨by omega, fun d hd => ?_⟩
    obtain ⟨e, he, rfl⟩ := List.mem_map.mp hd
    obtain ⟨t, b, e1⟩ := h e he
    have l := low_pv (L.length + 2) 0 t b (by omega)
    have k : pv (L.length + 2) 1 (kD e.2) = true := pvF_pv (by cases e.2 <;> (show PyData.strOk _ = true; decide +kernel))
    simp [evD, e1, pv, l, k]
  exact eqD_self hp (by omega)
theorem crossV_low (P : Fm) (a b c d e g : Int) : ∃ t u, crossV P a b c d e g = low t u := by
  unfold crossV
  split
  · exact ⟨_, _, rfl⟩
  · split
    · exact ⟨_, _, rfl⟩
    · split <;> exact ⟨_, _, rfl⟩
theorem evs_low {g : Int → Int} {W X : Int → D} (hW : ∀ m, ∃ t u, W m = low t u) (hX : ∀ m, ∃ t u, X m = low t u) : ∀ (ms : List Int) (side : Int) (bg : Option D), (∀ b, bg = some b → ∃ t u, b = low t u) → ∀ e ∈ evs g W X side bg ms, ∃ t u, e.1 = low t u
  | [], side, none, _, e, he => by cases he
  | [], side, some b, h, e, he => by
    simp only [evs, List.mem_singleton] at he
    subst he
    exact h b rfl
  | m :: ms, side, bg, h, e, he => by
    rw [ev_cons2] at he
    have hb : ∃ t u, bg.getD (W m) = low t u := by
      cases bg with
      | none => exact hW m
      | some b => exact h b rfl
    rcases List.mem_append.mp he with he | he
    · rcases List.mem_append.mp he with he | he
      · split at he
        · rename_i hc
          rw [if_pos hc.1] at he
          simp only [List.mem_singleton, Option.getD_some] at he
          subst he
          exact hb
        · cases he
      · split at he
        · simp only [List.mem_singleton] at he
          subst he
          exact hX m
        · cases he
    · refine evs_low hW hX ms _ _ (fun b hbb => ?_) e he
      split at hbb
      · cases hbb
      · split at hbb
        · cases hbb; exact hb
        · exact h b hbb
theorem evL_low (P : Fm) (p q : Int) (A B : List D) : ∀ e ∈ evL P p q A B, ∃ t u, e.1 = low t u := by
  unfold evL
  exact evs_low (fun m => ⟨_, _, rfl⟩) (fun m => crossV_low ..) _ _ _ (fun b hb => by cases hb)
end Lw
end
section
set_option Elab.async false
set_option linter.all false
set_option maxRecDepth 100000
set_option maxHeartbeats 4000000
namespace Lw
open Pv PySem
abbrev sPc : Str := Str.ofString "paces value"
abbrev sWk : Str := Str.ofString "walker value"
abbrev sNb : Str := Str.ofString "number value"
abbrev sPr : Str := Str.ofString "pair value"
theorem err_3 : errN 3 = some sPc := Eq.trans rfl rfl
theorem err_4 : errN 4 = some sWk := Eq.trans rfl rfl
theorem err_5 : errN 5 = some sNb := Eq.trans rfl rfl
theorem err_2 : errN 2 = some sPr := Eq.trans rfl rfl
section
variable {P : Fm} {p q : Int} {A B : List D}
theorem nw_no (n : Nat) (S : So) (R : Pr p q A B) (v : D) (hv : pw v = true) (hb : pacesB v = false) : prg Ps gl (n + 7) i_need_walk [pairD p q A B, v] S = .ex 3 S := by
  have := need_walk_ok n _ v S R.pw hv
  rw [R.pr, hb] at this
  simpa using this
theorem done_no (n : Nat) (S : So) (R : Pr p q A B) (v : D) (hv : pw v = true) (hb : pacesB v = false) : prg Ps gl (n + 8) i_done_at [pairD p q A B, v] S = .ex 3 S := by
  rw [p_done_at, runD_ap rfl]
  simp [d_done_at, nw_no n S R v hv hb]
theorem meet_no (n : Nat) (S : So) (R : Pr p q A B) (v : D) (hv : pw v = true) (hb : pacesB v = false) : prg Ps gl (n + 8) i_meetings [pairD p q A B, v] S = .ex 3 S := by
  rw [p_meetings, runD_ap rfl]
  simp [d_meetings, nw_no n S R v hv hb]
theorem place_no (n : Nat) (S : So) (R : Pr p q A B) (v x y : D) (hv : pw v = true) (hb : pacesB v = false) : prg Ps gl (n + 8) i_place_at [pairD p q A B, v, x, y] S = .ex 3 S := by
  rw [p_place_at, runD_ap rfl]
  simp [d_place_at, nw_no n S R v hv hb]
theorem nw_11 (n : Nat) (S : So) (R : Pr p q A B) : prg Ps gl (n + 7) i_need_walk [pairD p q A B, .tup [.int 1, .int 1]] S = .ok .non S := by
  have := need_walk_ok n _ (.tup [.int 1, .int 1]) S R.pw (by decide +kernel)
  rw [R.pr, show pacesB (.tup [.int 1, .int 1]) = true by decide +kernel] at this
  simpa using this
theorem place_nowalker (n : Nat) (S : So) (R : Pr p q A B) (v y : D) (hv : pw v = true) (hb : whole v 0 1 = false) : prg Ps gl (n + 8) i_place_at [pairD p q A B, .tup [.int 1, .int 1], v, y] S = .ex 4 S := by
  rw [p_place_at, runD_ap rfl]
  have := need_walker_ok (n + 4) v S hv
  rw [hb] at this
  simp at this
  simp [d_place_at, nw_11 n S R, this]
theorem place_notime (n : Nat) (S : So) (R : Pr p q A B) (v : D) (hv : pw v = true) (hb : timeB v = false) : prg Ps gl (n + 8) i_place_at [pairD p q A B, .tup [.int 1, .int 1], .int 1, v] S = .ex 5 S := by
  rw [p_place_at, runD_ap rfl]
  have h1 := need_walker_ok (n + 4) (.int 1) S rfl
  rw [show whole (.int 1) 0 1 = true by decide +kernel] at h1
  have h2 := need_time_ok (n + 5) v S hv
  rw [hb] at h2
  simp at h1 h2
  simp [d_place_at, nw_11 n S R, h1, h2]
theorem meet_nopair (n : Nat) (S : So) (R : Pr p q A B) : prg Ps gl (n + 8) i_meetings [.tup [.int p, .tup A], .non] S = .ex 2 S := by
  rw [p_meetings, runD_ap rfl]
  have hw : pw (.tup [.int p, .tup A]) = true := by have := R.pw; simp [pairD, Lw.pw, pws] at this ⊢; exact this.1
  have := need_walk_ok n (.tup [.int p, .tup A]) .non S hw rfl
  rw [show pair (.tup [.int p, .tup A]) = false by simp [pair, script]] at this
  simp at this
  simp [d_meetings, this]
theorem refused_ok (n : Nat) (S : So) (R : Pr p q A B) : prg Ps gl (n + 9) i__law_refused [pairD p q A B] S = .ok (.bl true) S := by
  have m3 : binD .mul (.lst [.str (Str.ofString "paces value")]) (.int 3) = some (.lst [.str sPc, .str sPc, .str sPc]) := by
    have h : (List.replicate (3 : Int).toNat [D.str (Str.ofString "paces value")]).flatten = [.str sPc, .str sPc, .str sPc] := rfl
    show (if (3 : Int) < 1000 ∧ [D.str (Str.ofString "paces value")].length * (3 : Int).toNat ≤ lim ∧ (-1000 : Int) < 3 then some (D.lst (List.replicate (3 : Int).toNat [D.str (Str.ofString "paces value")]).flatten) else none) = _
    rw [if_pos (by decide +kernel), h]
  have e3 : eqD (.lst [.str sPc, .str sPc, .str sPc]) (.lst [.str sPc, .str sPc, .str sPc]) = some true := eqD_self (w := 3) (d := 1) (by decide +kernel) (by omega)
  have e4 : eqD (.str sWk) (.str (Str.ofString "walker value")) = some true := eqD_self (w := 3) (d := 0) (by decide +kernel) (by omega)
  have e5 : eqD (.str sNb) (.str (Str.ofString "number value")) = some true := eqD_self (w := 3) (d := 0) (by decide +kernel) (by omega)
  have e2 : eqD (.str sPr) (.str (Str.ofString "pair value")) = some true := eqD_self (w := 3) (d := 0) (by decide +kernel) (by omega)
  have odd0 : ∀ v : D, pw v = true → pacesB v = false → ∀ (x1 x2 : Sl), exs (prg Ps gl (n + 8)) gl lb__law_refused_0 [.sh (pairD p q A B), .sh v, x2] S = .ok .nx [.sh (pairD p q A B), .sh v, .sh (.lst [.str sPc, .str sPc, .str sPc])] S := by
    intro v hv hb x1 x2
    have a := done_no n S R v hv hb
    have b := meet_no n S R v hv hb
    have c := place_no n S R v .non .non hv hb
    simp [lb__law_refused_0, a, b, c, err_3, lim, m3, e3]
  have odd1 : ∀ v : D, pw v = true → whole v 0 1 = false → ∀ (x2 : Sl), exs (prg Ps gl (n + 8)) gl lb__law_refused_1 [.sh (pairD p q A B), .sh v, x2] S = .ok .nx [.sh (pairD p q A B), .sh v, x2] S := by
    intro v hv hb x2
    have a := place_nowalker n S R v .non hv hb
    simp [lb__law_refused_1, a, err_4, lim, e4]
  have odd2 : ∀ v : D, pw v = true → timeB v = false → ∀ (x2 : Sl), exs (prg Ps gl (n + 8)) gl lb__law_refused_2 [.sh (pairD p q A B), .sh v, x2] S = .ok .nx [.sh (pairD p q A B), .sh v, x2] S := by
    intro v hv hb x2
    have a := place_notime n S R v hv hb
    simp [lb__law_refused_2, a, err_5, lim, e5]
  have run0 : ∀ (vs : List D) (x1 x2 : Sl), (∀ v ∈ vs, pw v = true ∧ pacesB v = false) → ∃ y1 y2, fLoop (asg lt__law_refused_0) (exs (prg Ps gl (n + 8)) gl lb__law_refused_0) vs [.sh (pairD p q A B), x1, x2] S = .ok .nx [.sh (pairD p q A B), y1, y2] S := by
    intro vs
    induction vs with
    | nil => intro x1 x2 _; exact ⟨x1, x2, rfl⟩
    | cons v vs ih =>
      intro x1 x2 h
      have hv := h v (List.mem_cons_self ..)
      obtain ⟨y1, y2, e⟩ := ih (.sh v) (.sh (.lst [.str sPc, .str sPc, .str sPc])) fun u hu => h u (List.mem_cons_of_mem _ hu)
      refine ⟨y1, y2, ?_⟩
      have q := odd0 v hv.1 hv.2 x1 x2
      simp [lt__law_refused_0] at e
      simp [floop_cons, lt__law_refused_0, bind_eq q, e]
  have run1 : ∀ (vs : List D) (x1 x2 : Sl), (∀ v ∈ vs, pw v = true ∧ whole v 0 1 = false) → ∃ y1 y2, fLoop (asg lt__law_refused_1) (exs (prg Ps gl (n + 8)) gl lb__law_refused_1) vs [.sh (pairD p q A B), x1, x2] S = .ok .nx [.sh (pairD p q A B), y1, y2] S := by
    intro vs
    induction vs with
    | nil => intro x1 x2 _; exact ⟨x1, x2, rfl⟩
    | cons v vs ih =>
      intro x1 x2 h
      have hv := h v (List.mem_cons_self ..)
      obtain ⟨y1, y2, e⟩ := ih (.sh v) x2 fun u hu => h u (List.mem_cons_of_mem _ hu)
      refine ⟨y1, y2, ?_⟩
      have q := odd1 v hv.1 hv.2 x2
      simp [lt__law_refused_1] at e
      simp [floop_cons, lt__law_refused_1, bind_eq q, e]
  have run2 : ∀ (vs : List D) (x1 x2 : Sl), (∀ v ∈ vs, pw v = true ∧ timeB v = false) → ∃ y1 y2, fLoop (asg lt__law_refused_2) (exs (prg Ps gl (n + 8)) gl lb__law_refused_2) vs [.sh (pairD p q A B), x1, x2] S = .ok .nx [.sh (pairD p q A B), y1, y2] S := by
    intro vs
    induction vs with
    | nil => intro x1 x2 _; exact ⟨x1, x2, rfl⟩
    | cons v vs ih =>
      intro x1 x2 h
      have hv := h v (List.mem_cons_self ..)
      obtain ⟨y1, y2, e⟩ := ih (.sh v) x2 fun u hu => h u (List.mem_cons_of_mem _ hu)
      refine ⟨y1, y2, ?_⟩
      have q := odd2 v hv.1 hv.2 x2
      simp [lt__law_refused_2] at e
      simp [floop_cons, lt__law_refused_2, bind_eq q, e]
  have l0 : ∀ v ∈ ([.non, .tup [.int 0, .int 1], .tup [.int 1, .bl true], .tup [.int 1], .lst [.int 1, .int 1], .tup [.int 1, .int (10 ^ 12 + 1)]] : List D), pw v = true ∧ pacesB v = false := by
    intro v hv
    simp only [List.mem_cons, List.not_mem_nil, or_false] at hv
    rcases hv with h | h | h | h | h | h <;> subst h <;> decide +kernel
  have l1 : ∀ v ∈ ([.int 2, .int (-1), .bl true, .non, .str (Str.ofString "0")] : List D), pw v = true ∧ whole v 0 1 = false := by
    intro v hv
    simp only [List.mem_cons, List.not_mem_nil, or_false] at hv
    rcases hv with h | h | h | h | h <;> subst h <;> decide +kernel
  have l2 : ∀ v ∈ ([.int (-1), .bl true, .non, .tup [.int 1, .int 2]] : List D), pw v = true ∧ timeB v = false := by
    intro v hv
    simp only [List.mem_cons, List.not_mem_nil, or_false] at hv
    rcases hv with h | h | h | h <;> subst h <;> decide +kernel
  obtain ⟨a1, a2, q0⟩ := run0 _ .no .no l0
  obtain ⟨b1, b2, q1⟩ := run1 _ a1 a2 l1
  obtain ⟨c1, c2, q2⟩ := run2 _ b1 b2 l2
  have last := meet_nopair n S R
  have pw12 : powD 10 12 = some (.int (10 ^ 12)) := by simp [powD]
  rw [p__law_refused, runD_ap rfl]
  simp at q0 q1 q2
  simp [pairD] at q0 q1 q2 ⊢
  simp [d__law_refused, lim, pw12, q0, q1, q2, last, err_2, e2]
end
end Lw
end
section
set_option Elab.async false
set_option linter.all false
set_option maxRecDepth 100000
set_option maxHeartbeats 4000000
namespace Lw
open Pv PySem
theorem pr_of {v : D} (h : pair v = true) : ∃ (p q : Int) (A B : List D), v = pairD p q A B ∧ Pr p q A B := by
  have h0 := h
  unfold pair at h
  split at h
  · rename_i a b
    simp only [Bool.and_eq_true] at h
    obtain ⟨p, A, rfl, p0, p1, la, lega, ga⟩ := script_form h.1.1.1
    obtain ⟨q, B, rfl, q0, q1, lb, legb, gb⟩ := script_form h.1.1.2
    refine ⟨p, q, A, B, rfl, h0, ?_, lega, legb, ⟨p0, p1⟩, ⟨q0, q1⟩, ga, gb, la, lb⟩
    have hl : ∀ (L : List D), L.all leg = true → pws L = true := by
      intro L
      induction L with
      | nil => intro _; simp [pws]
      | cons d L ih =>
        intro hh
        simp only [List.all_cons, Bool.and_eq_true] at hh
        obtain ⟨i, ⟨rfl, _⟩ | ⟨rfl, _⟩⟩ := leg_form hh.1 <;> simp [pws, pw, ok_to, ok_wait, ih hh.2]
    simp [pairD, pw, pws, hl A lega, hl B legb]
  · cases h
section
variable {P : Fm} {p q : Int} {A B : List D}
theorem low_self (t b : Int) : eqD (low t b) (low t b) = some true := eqD_self (low_pv 2 0 t b (by omega)) (by omega)
/-- one time of one walker -/
theorem time_ok (S : So) (w : Nat) (hw : w = 0 ∨ w = 1) (t : Int) (t0 : 0 ≤ t) (t1 : t < 2 ^ 80) (hP : P12 P) (R : Pr p q A B) (v0 v1 v2 v3 x5 x8 x11 : Sl) :
    ∃ y11, exs (prg Ps gl 13) gl lb_law_3 [v0, v1, v2, v3, .sh (pairD p q A B), x5, .sh (fD P), .sh (.lst [.lst ((rows P p q A B).1.map (wD P)), .lst ((rows P p q A B).2.map (wD P))]), x8, .sh (.int (w : Nat)), .sh (.int t), x11] S = .ok .nx [v0, v1, v2, v3, .sh (pairD p q A B), x5, .sh (fD P), .sh (.lst [.lst ((rows P p q A B).1.map (wD P)), .lst ((rows P p q A B).2.map (wD P))]), x8, .sh (.int (w : Nat)), .sh (.int t), y11] S := by
  have c := hP.pc
  have pa := place_at_ok 5 S w t hw t0 t1 ⟨hP.a0, by have := hP.a1; omega⟩ ⟨hP.b0, by have := hP.b1; omega⟩ R
  have I := rows_inv (P := P) c.nn R.hA R.hp R.hB R.hq
  generalize rows P p q A B = x at *
  have M := I.mt c R.hA R.hB R.hp R.hq R.lA R.lB
  rcases hw with e | e
  · subst e
    have z1 : ∀ f, x.1.head? = some f → wrt P f ≤ t := fun f hf => by rw [I.one.z] at hf; cases hf; unfold wrt; simp; omega
    have e1 := law_top_ok 11 S P.1 t (x.1.map (wrt P)) R.hA R.lA R.hp (by rw [List.length_map]; exact I.one.len) (by simpa using M.n1) c.sm.1 (by omega) (fun u hu => by
      obtain ⟨f, hf, rfl⟩ := List.mem_map.mp hu
      have := wrt_12 hP (M.b1 f hf)
      omega)
    rw [topI_topF P P.1 t x.1 0 (fun j hj => (I.one.turn j hj).1) z1] at e1
    have s1 := top_bd (pace := P.1) c R.hA R.hp ⟨c.a0, c.a1⟩ t0 t1 x.1 0 M.n1 M.b1
    have lo := law_lowest_ok 12 (topF p A P P.1 t 0 x.1) P.1 S c.a0 c.sm.1 s1
    have w1 : (x.1.map (wrt P)).map D.int = x.1.map (wD P) := by rw [List.map_map]; rfl
    rw [w1] at e1
    have se := low_self (topF p A P P.1 t 0 x.1) P.1
    simp only [if_true] at pa
    refine ⟨.sh (.int (topF p A P P.1 t 0 x.1)), ?_⟩
    generalize low (topF p A P P.1 t 0 x.1) P.1 = LL at *
    generalize topF p A P P.1 t 0 x.1 = tt at *
    generalize x.1.map (wD P) = r1 at *
    generalize x.2.map (wD P) = r2 at *
    simp [pairD, fD] at pa e1 lo
    simp [lb_law_3, pairD, fD, e1, pa, lo, se]
  · subst e
    have z1 : ∀ f, x.2.head? = some f → wrt P f ≤ t := fun f hf => by rw [I.two.z] at hf; cases hf; unfold wrt; simp; omega
    have e1 := law_top_ok 11 S P.2 t (x.2.map (wrt P)) R.hB R.lB R.hq (by rw [List.length_map]; exact I.two.len) (by simpa using M.n2) c.sm.2 (by omega) (fun u hu => by
      obtain ⟨f, hf, rfl⟩ := List.mem_map.mp hu
      have := wrt_12 hP (M.b2 f hf)
      omega)
    rw [topI_topF P P.2 t x.2 0 (fun j hj => (I.two.turn j hj).1) z1] at e1
    have s1 := top_bd (pace := P.2) c R.hB R.hq ⟨c.b0, c.b1⟩ t0 t1 x.2 0 M.n2 M.b2
    have lo := law_lowest_ok 12 (topF q B P P.2 t 0 x.2) P.2 S c.b0 c.sm.2 s1
    have w1 : (x.2.map (wrt P)).map D.int = x.2.map (wD P) := by rw [List.map_map]; rfl
    rw [w1] at e1
    have se := low_self (topF q B P P.2 t 0 x.2) P.2
    simp only [Nat.one_ne_zero, if_false] at pa
    refine ⟨.sh (.int (topF q B P P.2 t 0 x.2)), ?_⟩
    generalize low (topF q B P P.2 t 0 x.2) P.2 = LL at *
    generalize topF q B P P.2 t 0 x.2 = tt at *
    generalize x.1.map (wD P) = r1 at *
    generalize x.2.map (wD P) = r2 at *
    simp [pairD, fD] at pa e1 lo
    simp [lb_law_3, pairD, fD, e1, pa, lo, se]
theorem times_ok (S : So) (w : Nat) (hw : w = 0 ∨ w = 1) (hP : P12 P) (R : Pr p q A B) (v0 v1 v2 v3 x5 x8 : Sl) : ∀ (ts : List Int) (x10 x11 : Sl), (∀ t ∈ ts, 0 ≤ t ∧ t < 2 ^ 80) →
    ∃ y10 y11, fLoop (asg lt_law_3) (exs (prg Ps gl 13) gl lb_law_3) (ts.map .int) [v0, v1, v2, v3, .sh (pairD p q A B), x5, .sh (fD P), .sh (.lst [.lst ((rows P p q A B).1.map (wD P)), .lst ((rows P p q A B).2.map (wD P))]), x8, .sh (.int (w : Nat)), x10, x11] S = .ok .nx [v0, v1, v2, v3, .sh (pairD p q A B), x5, .sh (fD P), .sh (.lst [.lst ((rows P p q A B).1.map (wD P)), .lst ((rows P p q A B).2.map (wD P))]), x8, .sh (.int (w : Nat)), y10, y11] S
  | [], x10, x11, _ => ⟨x10, x11, rfl⟩
  | t :: ts, x10, x11, h => by
    have ht := h t (List.mem_cons_self ..)
    obtain ⟨z11, e1⟩ := time_ok S w hw t ht.1 ht.2 hP R v0 v1 v2 v3 x5 x8 x11
    obtain ⟨y10, y11, e2⟩ := times_ok S w hw hP R v0 v1 v2 v3 x5 x8 ts (.sh (.int t)) z11 fun u hu => h u (List.mem_cons_of_mem _ hu)
    refine ⟨y10, y11, ?_⟩
    generalize (rows P p q A B).1.map (wD P) = r1 at *
    generalize (rows P p q A B).2.map (wD P) = r2 at *
    simp [lt_law_3] at e2
    simp [floop_cons, lt_law_3, bind_eq e1, e2]
/-- the times of one walker, two of them drawn -/
theorem who_ok (n : Nat) (S : So) (hb : Bag n S) (w : Nat) (hw : w = 0 ∨ w = 1) (hP : P12 P) (R : Pr p q A B) (v0 v1 v2 x5 x8 x10 x11 : Sl) :
    ∃ (S' : So) (y10 y11 : Sl), exs (prg Ps gl 13) gl lb_law_2 [v0, v1, v2, .sh (.ob n), .sh (pairD p q A B), x5, .sh (fD P), .sh (.lst [.lst ((rows P p q A B).1.map (wD P)), .lst ((rows P p q A B).2.map (wD P))]), x8, .sh (.int (w : Nat)), x10, x11] S = .ok .nx [v0, v1, v2, .sh (.ob n), .sh (pairD p q A B), x5, .sh (fD P), .sh (.lst [.lst ((rows P p q A B).1.map (wD P)), .lst ((rows P p q A B).2.map (wD P))]), x8, .sh (.int (w : Nat)), y10, y11] S' ∧ Bag n S' := by
  obtain ⟨a, S1, t1, a0, a1, b1⟩ := take_ok 12 n 60 S (by decide) hb
  obtain ⟨b, S2, t2, c0, c1, b2⟩ := take_ok 12 n 600 S1 (by decide) b1
  obtain ⟨y10, y11, e⟩ := times_ok S2 w hw hP R v0 v1 v2 (.sh (.ob n)) x5 x8 [0, 1, a, b, 10 ^ 20] x10 x11 (by
    intro t ht
    simp only [List.mem_cons, List.not_mem_nil, or_false] at ht
    rcases ht with h | h | h | h | h <;> subst h <;> omega)
  refine ⟨S2, y10, y11, ?_, b2⟩
  have p20 : powD 10 20 = some (.int (10 ^ 20)) := by simp [powD]
  generalize (rows P p q A B).1.map (wD P) = r1 at *
  generalize (rows P p q A B).2.map (wD P) = r2 at *
  simp at e
  simp [lb_law_2, t1, t2, p20, lim, e]
end
end Lw
end
section
set_option Elab.async false
set_option linter.all false
set_option maxRecDepth 100000
set_option maxHeartbeats 4000000
namespace Lw
open Pv PySem
theorem wD_pv (P : Fm) (w : Nat) : ∀ l : List Fm, l.length ≤ w → pv w 1 (.lst (l.map (wD P))) = true := by
  intro l hl
  simp only [pv, Bool.and_eq_true, decide_eq_true_eq, List.all_eq_true, List.length_map]
  refine ⟨hl, fun d hd => ?_⟩
  obtain ⟨f, _, rfl⟩ := List.mem_map.mp hd
  rfl
section
variable {p q : Int} {A B : List D}
theorem turn_ok (n : Nat) (S : So) (hb : Bag n S) (R : Pr p q A B) (v0 v1 v2 x5 x6 x7 x8 x9 x10 x11 : Sl) :
    ∃ (S' : So) (y6 y7 y8 y9 y10 y11 : Sl), exs (prg Ps gl 13) gl lb_law_1 [v0, v1, v2, .sh (.ob n), .sh (pairD p q A B), x5, x6, x7, x8, x9, x10, x11] S = .ok .nx [v0, v1, v2, .sh (.ob n), .sh (pairD p q A B), x5, y6, y7, y8, y9, y10, y11] S' ∧ Bag n S' := by
  obtain ⟨a, S1, t1, a0, a1, b1⟩ := take_ok 12 n 12 S (by decide) hb
  obtain ⟨b, S2, t2, c0, c1, b2⟩ := take_ok 12 n 12 S1 (by decide) b1
  have hP : P12 ((1 + a, 1 + b) : Fm) := ⟨by simp only; omega, by simp only; omega, by simp only; omega, by simp only; omega⟩
  have c := hP.pc
  obtain ⟨far, S3, t3, f0, f1, b3⟩ := take_ok 12 n 1000 S2 (by decide) b2
  have ck := clock_ok 11 (1 + a, 1 + b) p q A B S2 c.sm c.nn R.hA R.hp R.hB R.hq R.lA R.lB
  have da := done_at_ok (P := (1 + a, 1 + b)) 5 S2 ⟨hP.a0, by have := hP.a1; omega⟩ ⟨hP.b0, by have := hP.b1; omega⟩ R
  have me := meetings_ok (P := (1 + a, 1 + b)) 5 S2 ⟨hP.a0, by have := hP.a1; omega⟩ ⟨hP.b0, by have := hP.b1; omega⟩ R
  have lm := law_met_ok 8 S2 hP R
  have lm3 := law_met_ok 8 S3 hP R
  have hf : 0 < 1000000000 + far := by omega
  have fa1 : (1 + a) * (1000000000 + far) ≤ 12 * 1000001000 := Int.mul_le_mul (by omega) (by omega) (by omega) (by omega)
  have fb1 : (1 + b) * (1000000000 + far) ≤ 12 * 1000001000 := Int.mul_le_mul (by omega) (by omega) (by omega) (by omega)
  have fa0 : 0 < (1 + a) * (1000000000 + far) := Int.mul_pos (by omega) hf
  have fb0 : 0 < (1 + b) * (1000000000 + far) := Int.mul_pos (by omega) hf
  have mf := meetings_ok (P := ((1 + a) * (1000000000 + far), (1 + b) * (1000000000 + far))) 5 S3 ⟨by simp only; omega, by simp only; omega⟩ ⟨by simp only; omega, by simp only; omega⟩ R
  have up1 : evL ((1 + a) * (1000000000 + far), (1 + b) * (1000000000 + far)) p q A B = evL (1 + a, 1 + b) p q A B := evL_up (P := (1 + a, 1 + b)) hf
  rw [up1] at mf
  have se := evD_self (evL (1 + a, 1 + b) p q A B) (evL_low _ _ _ _ _)
  have o1 : okMul (1 + a) (1000000000 + far) = true := okMul_sm (by unfold sm; omega) (by unfold sm; omega)
  have o2 : okMul (1 + b) (1000000000 + far) = true := okMul_sm (by unfold sm; omega) (by unfold sm; omega)
  have p9 : powD 10 9 = some (.int 1000000000) := by simp [powD]
  have I := rows_inv (P := ((1 + a, 1 + b) : Fm)) c.nn R.hA R.hp R.hB R.hq
  have l1 := I.one.len
  have l2 := I.two.len
  have lA := R.lA
  have lB := R.lB
  have sd : eqD (.tup [.lst (((rows (1 + a, 1 + b) p q A B).1.map (wD (1 + a, 1 + b))).drop 1), .lst (((rows (1 + a, 1 + b) p q A B).2.map (wD (1 + a, 1 + b))).drop 1)]) (.tup [.lst (((rows (1 + a, 1 + b) p q A B).1.map (wD (1 + a, 1 + b))).drop 1), .lst (((rows (1 + a, 1 + b) p q A B).2.map (wD (1 + a, 1 + b))).drop 1)]) = some true := by
    have h1 := wD_pv (1 + a, 1 + b) 20 ((rows (1 + a, 1 + b) p q A B).1.drop 1) (by rw [List.length_drop]; omega)
    have h2 := wD_pv (1 + a, 1 + b) 20 ((rows (1 + a, 1 + b) p q A B).2.drop 1) (by rw [List.length_drop]; omega)
    rw [← List.map_drop, ← List.map_drop]
    exact eqD_self (w := 20) (d := 2) (by
      have e : ∀ x y : D, pv 20 1 x = true → pv 20 1 y = true → pv 20 2 (.tup [x, y]) = true := fun x y hx hy => by
        show (decide ([x, y].length ≤ 20) && [x, y].all (pv 20 1)) = true
        simp [hx, hy]
      exact e _ _ h1 h2) (by omega)
  obtain ⟨S4, y10, y11, w0, b4⟩ := who_ok n S3 b3 0 (.inl rfl) hP R v0 v1 v2 x5 (.sh (.int (1000000000 + far))) x10 x11
  obtain ⟨S5, z10, z11, w1, b5⟩ := who_ok n S4 b4 1 (.inr rfl) hP R v0 v1 v2 x5 (.sh (.int (1000000000 + far))) y10 y11
  refine ⟨S5, .sh (fD (1 + a, 1 + b)), .sh (.lst [.lst ((rows (1 + a, 1 + b) p q A B).1.map (wD (1 + a, 1 + b))), .lst ((rows (1 + a, 1 + b) p q A B).2.map (wD (1 + a, 1 + b)))]), .sh (.int (1000000000 + far)), .sh (.int 1), z10, z11, ?_, b5⟩
  generalize (rows (1 + a, 1 + b) p q A B).1.map (wD (1 + a, 1 + b)) = r1 at *
  generalize (rows (1 + a, 1 + b) p q A B).2.map (wD (1 + a, 1 + b)) = r2 at *
  generalize (evL (1 + a, 1 + b) p q A B).map evD = EE at *
  simp [fD] at ck da me lm lm3 mf sd w0 w1
  simp [lb_law_1, fD, t1, t2, t3, ck, da, cut_drop1, sd, me, lm, se, p9, o1, o2, mf, lm3, floop_cons, lt_law_2, bind_eq w0, bind_eq w1, lim]
theorem turns_ok (n : Nat) (R : Pr p q A B) (v0 v1 v2 : Sl) : ∀ (ts : List Nat) (S : So) (x5 x6 x7 x8 x9 x10 x11 : Sl), Bag n S →
    ∃ (S' : So) (y5 y6 y7 y8 y9 y10 y11 : Sl), fLoop (asg lt_law_1) (exs (prg Ps gl 13) gl lb_law_1) (ts.map fun t => .int (t : Nat)) [v0, v1, v2, .sh (.ob n), .sh (pairD p q A B), x5, x6, x7, x8, x9, x10, x11] S = .ok .nx [v0, v1, v2, .sh (.ob n), .sh (pairD p q A B), y5, y6, y7, y8, y9, y10, y11] S'
  | [], S, x5, x6, x7, x8, x9, x10, x11, _ => ⟨S, x5, x6, x7, x8, x9, x10, x11, rfl⟩
  | t :: ts, S, x5, x6, x7, x8, x9, x10, x11, hb => by
    obtain ⟨S1, y6, y7, y8, y9, y10, y11, e1, b1⟩ := turn_ok n S hb R v0 v1 v2 (.sh (.int (t : Nat))) x6 x7 x8 x9 x10 x11
    obtain ⟨S2, z5, z6, z7, z8, z9, z10, z11, e2⟩ := turns_ok n R v0 v1 v2 ts S1 (.sh (.int (t : Nat))) y6 y7 y8 y9 y10 y11 b1
    refine ⟨S2, z5, z6, z7, z8, z9, z10, z11, ?_⟩
    simp [lt_law_1] at e2 e1
    simp [floop_cons, lt_law_1, bind_eq e1, e2]
end
theorem rng_5 : rng1 (.int 5) = some ((List.range' 0 5).map fun j => .int (j : Nat)) := rng_n (n := 5) (by omega)
theorem rng_8 : rng1 (.int 8) = some ((List.range' 0 8).map fun j => .int (j : Nat)) := rng_n (n := 8) (by omega)
theorem one_ok (ns : List Int) (k : Nat) (hk : k < 8) (S : So) (v2 x3 x4 x5 x6 x7 x8 x9 x10 x11 : Sl) :
    ∃ (S' : So) (y3 y4 y5 y6 y7 y8 y9 y10 y11 : Sl), exs (prg Ps gl 13) gl lb_law_0 [.sh (.scr ns), .sh (.int (k : Nat)), v2, x3, x4, x5, x6, x7, x8, x9, x10, x11] S = .ok .nx [.sh (.scr ns), .sh (.int (k : Nat)), v2, y3, y4, y5, y6, y7, y8, y9, y10, y11] S' := by
  obtain ⟨is, hbag⟩ := bag_ok 10 ns k S hk
  have b0 : Bag S.length (S ++ [.lst (is.map .int)]) := ⟨is, by simp⟩
  obtain ⟨v, S2, hpair, b2, hv⟩ := pair_drawn 10 S.length _ b0
  obtain ⟨p, q, A, B, rfl, R⟩ := pr_of hv
  obtain ⟨S3, y5, y6, y7, y8, y9, y10, y11, e⟩ := turns_ok S.length R (.sh (.scr ns)) (.sh (.int (k : Nat))) v2 (List.range' 0 5) S2 x5 x6 x7 x8 x9 x10 x11 b2
  have rf := refused_ok 4 S3 R
  refine ⟨S3, .sh (.ob S.length), .sh (pairD p q A B), y5, y6, y7, y8, y9, y10, y11, ?_⟩
  generalize hL : ((List.range' 0 5).map fun j : Nat => D.int (j : Int)) = L at *
  have r5 := rng_5
  rw [hL] at r5
  generalize pairD p q A B = v at *
  simp at hbag hpair rf
  simp [lb_law_0, hbag, hpair, r5, e, rf]
theorem outer (ns : List Int) (v2 : Sl) : ∀ (ks : List Nat) (S : So) (x1 x3 x4 x5 x6 x7 x8 x9 x10 x11 : Sl), (∀ k ∈ ks, k < 8) →
    ∃ (S' : So) (y1 y3 y4 y5 y6 y7 y8 y9 y10 y11 : Sl), fLoop (asg lt_law_0) (exs (prg Ps gl 13) gl lb_law_0) (ks.map fun k => .int (k : Nat)) [.sh (.scr ns), x1, v2, x3, x4, x5, x6, x7, x8, x9, x10, x11] S = .ok .nx [.sh (.scr ns), y1, v2, y3, y4, y5, y6, y7, y8, y9, y10, y11] S'
  | [], S, x1, x3, x4, x5, x6, x7, x8, x9, x10, x11, _ => ⟨S, x1, x3, x4, x5, x6, x7, x8, x9, x10, x11, rfl⟩
  | k :: ks, S, x1, x3, x4, x5, x6, x7, x8, x9, x10, x11, h => by
    obtain ⟨S1, y3, y4, y5, y6, y7, y8, y9, y10, y11, e1⟩ := one_ok ns k (h k (List.mem_cons_self ..)) S v2 x3 x4 x5 x6 x7 x8 x9 x10 x11
    obtain ⟨S2, z1, z3, z4, z5, z6, z7, z8, z9, z10, z11, e2⟩ := outer ns v2 ks S1 (.sh (.int (k : Nat))) y3 y4 y5 y6 y7 y8 y9 y10 y11 fun j hj => h j (List.mem_cons_of_mem _ hj)
    refine ⟨S2, z1, z3, z4, z5, z6, z7, z8, z9, z10, z11, ?_⟩
    simp [lt_law_0] at e1 e2
    simp [floop_cons, lt_law_0, bind_eq e1, e2]
end Lw
end
section
set_option Elab.async false
set_option linter.all false
set_option maxRecDepth 100000
set_option maxHeartbeats 4000000
namespace Lw
open Pv PySem
abbrev wLeg (i : Int) : D := .tup [.str (Str.ofString "wait"), .int i]
abbrev tLeg (i : Int) : D := .tup [.str (Str.ofString "to"), .int i]
theorem prA : Pr 0 0 [tLeg 10, tLeg 0] [tLeg 10] := ⟨by decide +kernel, by decide +kernel, by decide +kernel, by decide +kernel, by decide +kernel, by decide +kernel, by decide +kernel, by decide +kernel, by decide +kernel, by decide +kernel⟩
theorem prC : Pr 0 4 [wLeg 1, tLeg 6] [tLeg 8, wLeg 2, tLeg 5] := ⟨by decide +kernel, by decide +kernel, by decide +kernel, by decide +kernel, by decide +kernel, by decide +kernel, by decide +kernel, by decide +kernel, by decide +kernel, by decide +kernel⟩
abbrev mt (t b : Int) (s : Str) : D := .tup [.tup [.int t, .int b], .str s]
theorem v12 : (evL (1, 2) 0 0 [tLeg 10, tLeg 0] [tLeg 10]).map evD = [mt 0 1 sTouch, mt 20 3 sPass] := by kernel_rfl
theorem v33 : (evL (3, 3) 0 0 [tLeg 10, tLeg 0] [tLeg 10]).map evD = [mt 0 1 sTouch] := by kernel_rfl
theorem v21 : (evL (2, 1) 0 0 [tLeg 10, tLeg 0] [tLeg 10]).map evD = [mt 0 1 sTouch, mt 10 1 sTouch] := by kernel_rfl
theorem v23 : (evL (2, 3) 0 4 [wLeg 1, tLeg 6] [tLeg 8, wLeg 2, tLeg 5]).map evD = [mt 6 1 sPass] := by kernel_rfl
theorem d23a : ((rows (2, 3) 0 4 [wLeg 1, tLeg 6] [tLeg 8, wLeg 2, tLeg 5]).1.map (wD (2, 3))).drop 1 = [.int 12, .int 24] := by kernel_rfl
theorem d23b : ((rows (2, 3) 0 4 [wLeg 1, tLeg 6] [tLeg 8, wLeg 2, tLeg 5]).2.map (wD (2, 3))).drop 1 = [.int 12, .int 24, .int 33] := by kernel_rfl
theorem plain (ns : List Int) : ∃ S, prg Ps gl 14 i_law [.scr ns] [] = .ok (.bl true) S := by
  obtain ⟨S, z1, z3, z4, z5, z6, z7, z8, z9, z10, z11, e⟩ := outer ns .no (List.range' 0 8) [] .no .no .no .no .no .no .no .no .no .no fun k hk => by simp at hk; omega
  refine ⟨S, ?_⟩
  have m1 := meetings_ok (P := (1, 2)) 5 S (by decide) (by decide) prA
  have m2 := meetings_ok (P := (3, 3)) 5 S (by decide) (by decide) prA
  have m3 := meetings_ok (P := (2, 1)) 5 S (by decide) (by decide) prA
  have m4 := meetings_ok (P := (2, 3)) 5 S (by decide) (by decide) prC
  have m5 := done_at_ok (P := (2, 3)) 5 S (by decide) (by decide) prC
  rw [v12] at m1
  rw [v33] at m2
  rw [v21] at m3
  rw [v23] at m4
  rw [d23a, d23b] at m5
  have e1 : eqD (.lst [mt 0 1 sTouch, mt 20 3 sPass]) (.lst [mt 0 1 sTouch, mt 20 3 sPass]) = some true := eqD_self (w := 5) (d := 3) (by decide +kernel) (by omega)
  have e2 : eqD (.lst [mt 0 1 sTouch]) (.lst [mt 0 1 sTouch]) = some true := eqD_self (w := 5) (d := 3) (by decide +kernel) (by omega)
  have e3 : eqD (.lst [mt 0 1 sTouch, mt 10 1 sTouch]) (.lst [mt 0 1 sTouch, mt 10 1 sTouch]) = some true := eqD_self (w := 5) (d := 3) (by decide +kernel) (by omega)
  have e4 : eqD (.lst [mt 6 1 sPass]) (.lst [mt 6 1 sPass]) = some true := eqD_self (w := 5) (d := 3) (by decide +kernel) (by omega)
  have e5 : eqD (.tup [.lst [.int 12, .int 24], .lst [.int 12, .int 24, .int 33]]) (.tup [.lst [.int 12, .int 24], .lst [.int 12, .int 24, .int 33]]) = some true := eqD_self (w := 5) (d := 3) (by decide +kernel) (by omega)
  have r8 := rng_8
  generalize hL : ((List.range' 0 8).map fun j : Nat => D.int (j : Int)) = L at *
  rw [p_law, runD_ap rfl]
  simp [pairD, fD] at m1 m2 m3 m4 m5
  simp [d_law, r8, e, m1, m2, m3, m4, m5, e1, e2, e3, e4, e5, lim]
end Lw
end
section
set_option Elab.async false
set_option linter.all false
set_option maxRecDepth 100000
set_option maxHeartbeats 0
namespace Lw
open PySem PySem.Spec PyProof.Rows L2 Pv
abbrev depth : Nat := 14
theorem law_of {w : World} {mg : Str → Option Value} {fa : Addr} {h : Heap} {n : Nat} (Y : hk.says w h) (Gn : h.Ns mainGlobals mg) (hfa : mg (Str.ofString "law") = some (.ref fa)) :
    ∃ K : PySem.W.Frag, K.In h ∧ LamX.LawAtS PySem.Challenge.rw_speedsopen_k02_whole_walks_with_known_pa w K (L2N.CX PySem.Challenge.rw_speedsopen_k02_whole_walks_with_known_pa.prog w) (3 * depth) n (Str.ofString "_law_script_here") mg fa h := by
  obtain ⟨K, KX, c⟩ := Y
  refine ⟨K, KX, ?_⟩
  have hm := c.more
  obtain ⟨hx, hnd⟩ := He.ba (show (Pv.exB K && Pv.tabNd tl K) = true from hm)
  have E : ErrF K mg fun n => .ref (He.ga K (xcN.getD n Str.empty)) := err_of (sn := s__law_named_error) (se := s__law_error) (pn := "_law_e") (pe := "_law_call") KX Gn c hx rfl rfl rfl rfl b__law_named_error b__law_error (by decide +kernel) (by decide +kernel) n_named n_error (st1 := top 65) (st2 := top 66) ⟨rfl, rfl, rfl⟩ ⟨rfl, rfl, rfl⟩ (by decide +kernel)
    (fun n nm e => by
      match n, e with
      | 1, e => exact ⟨"InvalidScript", by decide +kernel, rfl, by cases e; decide +kernel⟩
      | 2, e => exact ⟨"InvalidPair", by decide +kernel, rfl, by cases e; decide +kernel⟩
      | 3, e => exact ⟨"InvalidPaces", by decide +kernel, rfl, by cases e; decide +kernel⟩
      | 4, e => exact ⟨"InvalidWalker", by decide +kernel, rfl, by cases e; decide +kernel⟩
      | 5, e => exact ⟨"InvalidNumber", by decide +kernel, rfl, by cases e; decide +kernel⟩
      | 6, e => exact ⟨"InvalidFacts", by decide +kernel, rfl, by cases e; decide +kernel⟩
      | 7, e => exact ⟨"InvalidText", by decide +kernel, rfl, by cases e; decide +kernel⟩
      | 8, e => exact ⟨"NoRatio", by decide +kernel, rfl, by cases e; decide +kernel⟩
      | 9, e => exact ⟨"NothingToUndo", by decide +kernel, rfl, by cases e; decide +kernel⟩
      | 0, e => cases e
      | n + 10, e => cases e) (by decide +kernel)
  have T : ∀ base : Heap, K.In base → base.Ns mainGlobals mg → (∀ p ∈ tl.map (fun x => He.cT K (x, none)), LamX.TabB base mg p.1 p.2) → Top ⟨K, fun _ => 0, tabT K tl⟩ (fun n => .ref (He.ga K (xcN.getD n Str.empty))) GNm gl PySem.Challenge.rw_speedsopen_k02_whole_walks_with_known_pa.prog w K mg base Ps Sp := fun base _ _ tb =>
    top_of KX Gn c (fun s hs => List.mem_cons_of_mem _ (List.mem_cons_of_mem _ hs)) (by decide +kernel) rfl ck (by decide +kernel) bp (fun k x d h1 h2 => by
      unfold gl at h2
      obtain ⟨q, e1, e2⟩ := Option.map_eq_some_iff.mp h2
      have e3 : glN = intL.map (·.1) := by decide +kernel
      have h1 : glN[k]? = some x := h1
      rw [e3, List.getElem?_map, e1] at h1
      cases h1
      exact ⟨q.2, List.mem_of_getElem? e1, e2.symm⟩) (by decide +kernel) hnd tb (fun _ => E)
  obtain ⟨fd, F⟩ := He.SaysD.defs (He.SaysT.d c.t) (d := dD s_law) (List.mem_map.mpr ⟨s_law, by unfold Sds; exact List.mem_cons_of_mem _ (List.mem_cons_of_mem _ (List.mem_of_getElem? (i := i_law) rfl)), rfl⟩)
  have e := hfa.symm.trans (He.glo_ok KX Gn (x := Str.ofString "law") (He.SaysD.facts (He.SaysT.d c.t) (List.mem_append_left _ (by
    unfold faOf
    simp only [List.mem_append]
    exact .inl (.inl (.inl (.inl (.inl (.inl (List.mem_map.mpr ⟨s_law, by unfold Sds; exact List.mem_cons_of_mem _ (List.mem_cons_of_mem _ (List.mem_of_getElem? (i := i_law) rfl)), rfl⟩))))))))))
  cases e
  have hbA := FunD.bindsA (ps := [Str.ofString "_law_script_here"]) F b_law
  refine law_at (G := ⟨K, fun _ => 0, tabT K tl⟩) (cs := tl.map fun x => He.cT K (x, none)) (s := s_law) (f := i_law) rfl (fun p hp => ?_) (fun p hp => ?_) (fun p hp => ?_) rfl rfl F hfa (fun st u => hbA st [u] rfl) (fun q hq => ?_) T fun ns _ _ => plain ns
  · obtain ⟨x, hx, rfl⟩ := List.mem_map.mp hp
    exact c.empty (x, none) (List.mem_map.mpr ⟨x, hx, rfl⟩)
  · obtain ⟨x, hx, rfl⟩ := List.mem_map.mp hp
    exact c.out (x, none) (List.mem_map.mpr ⟨x, hx, rfl⟩)
  · obtain ⟨x, hx, rfl⟩ := List.mem_map.mp hp
    exact PySem.W.codeHd_of_K KX (c.hd (x, none) (List.mem_map.mpr ⟨x, hx, rfl⟩))
  · obtain ⟨x, hx, rfl⟩ := List.mem_map.mp hq
    exact ⟨_, List.mem_map.mpr ⟨x, hx, rfl⟩, rfl⟩
end Lw
open PySem PySem.W PySem.Calls PyProof.Rows
theorem PySem.Challenge.cw_speedsopen_k02_whole_walks_with_known_pa_holds : PySem.Challenge.rw_speedsopen_k02_whole_walks_with_known_pa.Holds := by
  w_on; o_law
  refine HandSHeadRun.head_any (r := Lw.R) (q := Lw.qv) (H := Lw.hk) (ob := Lw.ob) (M := 9000) (loose := Lw.names) (d := HandSHeadRun.topDef Lw.R.prog 68) (kwd := []) Lw.ob_eq
    (by kernel_rfl) (fun s => by kernel_rfl) Lw.run (by kernel_rfl) (by kernel_rfl) (by kernel_rfl) (by rfl) (by first | assumption | decide +kernel) (by decide +kernel) ⟨rfl, rfl, rfl, rfl, rfl, by decide +kernel⟩ ?hw ?hc
  case hw => w_witness2
  case hc =>
    refine LamX.walk_ofTsE (l := PySem.Challenge.rw_speedsopen_k02_whole_walks_with_known_pa) (n := 63) (k := 3 * Lw.depth) (x := "_law_script_here") (CX := fun w => L2N.CX PySem.Challenge.rw_speedsopen_k02_whole_walks_with_known_pa.prog w) rfl (by decide) (by kernel_rfl) ⟨rfl, by decide, by decide⟩ ?F (fun _ _ _ _ _ ⟨_, _, _, _, _, _, _, _, _, _, _, _, z⟩ => z)
    intro w mg fa h Y G hmg0
    have hmg : mg ("law" : PySem.Str) = some (.ref fa) := by
      have e : (HandSHeadRun.topDef Lw.R.prog 68).name = ("law" : PySem.Str) := by kernel_rfl
      rw [← e]
      exact hmg0
    exact Lw.law_of Y G hmg
end
