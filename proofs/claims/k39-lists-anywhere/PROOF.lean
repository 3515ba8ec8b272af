import PyProof.Rows.All
import Wide.All
import OpenK.AllK
import Wide.FinOn
import HandS.ForMost
import HandS.TupAny
import HandS.Deep
import HandS.Zip
import HandS.IsInst
import HandS.Style
import KE.OsSetLaws
import KE.DataMinMax
import HandS.TupSets
import KE.SortData
import PyProof.TupleOfSeq
import KE.KRevSl
import HandS.SetFor
import HandS.Strs
import KE.KeyNested
import HandS.Dict
import HandS.More
import HandS.Lambda
import KE.KLam
import KE.GoesZip
import KE.GoesMore
import KE.KNest
import HandS.ExcValue
import HandS.EndOwn
import HandS.RaiseMore
import KE.GoesEnum
import KE.DataEq
import PySem.Challenge.RW_pegrows_k39_lists_anywhere_in_papers
set_option Elab.async false
set_option linter.all false
set_option maxRecDepth 100000
set_option autoImplicit false
set_option maxHeartbeats 4000000
namespace G
open PySem PySem.Spec PyProof.Rows L2

/-! ## data, and how a value bears it -/
abbrev D := PyData
abbrev Av := Addr → Prop
abbrev Mem := Hp → D → Addr → Prop
abbrev noA : Av := fun _ => False
/-- the script, as a datum that nobody writes -/
def scrD (ns : List Int) : D := .dict (ns.map fun n => (.int n, .none))
/-- a table that is kept between calls -/
def memD (k : D) : D := .dict [(.none, k)]

mutual
inductive Br (K : PySem.W.Frag) (M : Mem) (av : Av) (H : Hp) : V → D → Prop
  | non : Br K M av H .non .none
  | bl (b : Bool) : Br K M av H (.bl b) (.bool b)
  | int (i : Int) : Br K M av H (.int i) (.int i)
  | str (x : Str) : Br K M av H (.str x) (.str x)
  | lst {a : Addr} {xs : List V} {ds : List D} : H a = some (.lst xs) → ¬ av a → BrL K M av H xs ds → Br K M av H (.ref a) (.list ds)
  | tup {a : Addr} {xs : List V} {ds : List D} : H a = some (.tup xs) → BrL K M av H xs ds → Br K M av H (.ref a) (.tuple ds)
  | scr {a : Addr} {ns : List Int} : ((∃ o, H a = some (.frz o (.lst (ns.map V.int)))) ∨ SqL K (fun _ => none) a (ns.map V.int)) → Br K M av H (.ref a) (scrD ns)
  | mem {a : Addr} {k : D} : M H k a → Br K M av H (.ref a) (memD k)
inductive BrL (K : PySem.W.Frag) (M : Mem) (av : Av) (H : Hp) : List V → List D → Prop
  | nil : BrL K M av H [] []
  | cons {v : V} {vs : List V} {d : D} {ds : List D} : Br K M av H v d → BrL K M av H vs ds → BrL K M av H (v :: vs) (d :: ds)
end

/-- what stays: all but what stands at av -/
structure Kp (M : Mem) (av : Av) (H H' : Hp) : Prop where
  lst : ∀ a xs, ¬ av a → H a = some (.lst xs) → H' a = some (.lst xs)
  frz : ∀ a o u, H a = some (.frz o u) → H' a = some (.frz o u)
  tup : ∀ a xs, H a = some (.tup xs) → H' a = some (.tup xs)
  mm : ∀ k a, M H k a → M H' k a
  dom : ∀ a, H' a = none → H a = none
/-- the kept tables stand where all stands -/
def MemOk (M : Mem) : Prop := ∀ H H' k a, Same H H' → M H k a → M H' k a

section
variable {K : PySem.W.Frag} {M : Mem} {av av' : Av} {H H' H2 : Hp}
theorem Kp.refl : Kp M av H H := ⟨fun _ _ _ e => e, fun _ _ _ e => e, fun _ _ e => e, fun _ _ e => e, fun _ e => e⟩
theorem Kp.trans (a : Kp M av H H') (b : Kp M av H' H2) : Kp M av H H2 :=
  ⟨fun c xs n e => b.lst c xs n (a.lst c xs n e), fun c o u e => b.frz c o u (a.frz c o u e), fun c xs e => b.tup c xs (a.tup c xs e), fun k c e => b.mm k c (a.mm k c e), fun c e => a.dom c (b.dom c e)⟩
theorem Kp.weak (h : ∀ a, av a → av' a) (a : Kp M av H H') : Kp M av' H H' := ⟨fun c xs n e => a.lst c xs (fun z => n (h c z)) e, a.frz, a.tup, a.mm, a.dom⟩
theorem Kp.of (a : Kp M noA H H') : Kp M av H H' := a.weak fun _ z => z.elim
theorem Kp.same (hM : MemOk M) (s : Same H H') : Kp M noA H H' := ⟨fun c xs _ e => s c _ e, fun c o u e => s c _ e, fun c xs e => s c _ e, fun k c e => hM H H' k c s e, fun c e => s.free e⟩
theorem same_new {p : Addr} {o : HO} (h : H p = none) : Same H (upd H p o) := fun b u e => by rw [upd_ne (ne_of_none e h)]; exact e
theorem Kp.new (hM : MemOk M) {p : Addr} {o : HO} (h : H p = none) : Kp M noA H (upd H p o) := Kp.same hM (same_new h)
mutual
theorem Br.mono {v : V} {d : D} (k : Kp M av H H') : Br K M av H v d → Br K M av H' v d
  | .non => .non
  | .bl b => .bl b
  | .int i => .int i
  | .str x => .str x
  | .lst e n r => .lst (k.lst _ _ n e) n (BrL.mono k r)
  | .tup e r => .tup (k.tup _ _ e) (BrL.mono k r)
  | .scr h => .scr (h.imp (fun ⟨o, e⟩ => ⟨o, k.frz _ _ _ e⟩) id)
  | .mem h => .mem (k.mm _ _ h)
theorem BrL.mono {vs : List V} {ds : List D} (k : Kp M av H H') : BrL K M av H vs ds → BrL K M av H' vs ds
  | .nil => .nil
  | .cons a r => .cons (Br.mono k a) (BrL.mono k r)
end
mutual
theorem Br.weak {v : V} {d : D} (h : ∀ a, av' a → av a ∨ H a = none) : Br K M av H v d → Br K M av' H v d
  | .non => .non
  | .bl b => .bl b
  | .int i => .int i
  | .str x => .str x
  | .lst e n r => .lst e (fun z => (h _ z).elim n fun q => by rw [q] at e; cases e) (BrL.weak h r)
  | .tup e r => .tup e (BrL.weak h r)
  | .scr h => .scr h
  | .mem h => .mem h
theorem BrL.weak {vs : List V} {ds : List D} (h : ∀ a, av' a → av a ∨ H a = none) : BrL K M av H vs ds → BrL K M av' H vs ds
  | .nil => .nil
  | .cons a r => .cons (Br.weak h a) (BrL.weak h r)
end
theorem BrL.length {vs : List V} {ds : List D} : BrL K M av H vs ds → vs.length = ds.length
  | .nil => rfl
  | .cons _ r => congrArg (· + 1) (BrL.length r)
theorem BrL.get {vs : List V} {ds : List D} {d : D} : ∀ {i : Nat}, BrL K M av H vs ds → ds[i]? = some d → ∃ v, vs[i]? = some v ∧ Br K M av H v d
  | _, .nil, e => by simp at e
  | 0, .cons a r, e => by simp at e; subst e; exact ⟨_, rfl, a⟩
  | i + 1, .cons a r, e => by
    obtain ⟨v, e1, b⟩ := BrL.get (i := i) r (by simpa using e)
    exact ⟨v, by simpa using e1, b⟩
theorem BrL.getV {vs : List V} {ds : List D} {v : V} : ∀ {i : Nat}, BrL K M av H vs ds → vs[i]? = some v → ∃ d, ds[i]? = some d ∧ Br K M av H v d
  | _, .nil, e => by simp at e
  | 0, .cons a r, e => by simp at e; subst e; exact ⟨_, rfl, a⟩
  | i + 1, .cons a r, e => by
    obtain ⟨v, e1, b⟩ := BrL.getV (i := i) r (by simpa using e)
    exact ⟨v, by simpa using e1, b⟩
theorem BrL.append {vs ws : List V} {ds es : List D} : BrL K M av H vs ds → BrL K M av H ws es → BrL K M av H (vs ++ ws) (ds ++ es)
  | .nil, b => b
  | .cons a r, b => .cons a (BrL.append r b)
theorem BrL.drop {vs : List V} {ds : List D} : ∀ (n : Nat), BrL K M av H vs ds → BrL K M av H (vs.drop n) (ds.drop n)
  | 0, r => r
  | _ + 1, .nil => .nil
  | n + 1, .cons _ r => BrL.drop n r
theorem BrL.take {vs : List V} {ds : List D} : ∀ (n : Nat), BrL K M av H vs ds → BrL K M av H (vs.take n) (ds.take n)
  | 0, _ => .nil
  | _ + 1, .nil => .nil
  | n + 1, .cons a r => .cons a (BrL.take n r)
theorem BrL.set {vs : List V} {ds : List D} {v : V} {d : D} (b : Br K M av H v d) : ∀ (n : Nat), BrL K M av H vs ds → BrL K M av H (vs.set n v) (ds.set n d)
  | _, .nil => .nil
  | 0, .cons _ r => .cons b r
  | n + 1, .cons a r => .cons a (BrL.set b n r)
theorem BrL.rev {vs : List V} {ds : List D} : BrL K M av H vs ds → BrL K M av H vs.reverse ds.reverse
  | .nil => .nil
  | .cons a r => by
    rw [List.reverse_cons, List.reverse_cons]
    exact (BrL.rev r).append (.cons a .nil)
theorem BrL.ints : ∀ (ns : List Int), BrL K M av H (ns.map V.int) (ns.map PyData.int)
  | [] => .nil
  | n :: r => .cons (.int n) (BrL.ints r)
theorem BrL.of_ints : ∀ {ns : List Int} {vs : List V}, BrL K M av H vs (ns.map PyData.int) → vs = ns.map V.int
  | [], _, .nil => rfl
  | n :: r, _, .cons a b => by
    cases a with
    | int i => rw [BrL.of_ints b]; rfl
end

/-- a value whose own list may stand among the owned ones -/
def BrK (K : PySem.W.Frag) (M : Mem) (av : Av) (H : Hp) (v : V) (d : D) : Prop :=
  Br K M av H v d ∨ ∃ a xs ds, v = .ref a ∧ d = .list ds ∧ H a = some (.lst xs) ∧ BrL K M av H xs ds
inductive BrKL (K : PySem.W.Frag) (M : Mem) (av : Av) (H : Hp) : List V → List D → Prop
  | nil : BrKL K M av H [] []
  | cons {v : V} {vs : List V} {d : D} {ds : List D} : BrK K M av H v d → BrKL K M av H vs ds → BrKL K M av H (v :: vs) (d :: ds)
section
variable {K : PySem.W.Frag} {M : Mem} {av av' : Av} {H H' H2 : Hp}
theorem BrK.mono {v : V} {d : D} (k : Kp M noA H H') : BrK K M av H v d → BrK K M av H' v d
  | .inl b => .inl (b.mono k.of)
  | .inr ⟨a, xs, ds, e1, e2, e3, b⟩ => .inr ⟨a, xs, ds, e1, e2, k.lst _ _ (fun z => z) e3, b.mono k.of⟩
theorem BrKL.mono {vs : List V} {ds : List D} (k : Kp M noA H H') : BrKL K M av H vs ds → BrKL K M av H' vs ds
  | .nil => .nil
  | .cons a r => .cons (a.mono k) (BrKL.mono k r)
theorem BrKL.of {vs : List V} {ds : List D} : BrL K M av H vs ds → BrKL K M av H vs ds
  | .nil => .nil
  | .cons a r => .cons (.inl a) (BrKL.of r)
/-- what stands under a list's datum -/
theorem BrK.list {v : V} {ds : List D} (b : BrK K M av H v (.list ds)) : ∃ a xs, v = .ref a ∧ H a = some (.lst xs) ∧ BrL K M av H xs ds := by
  rcases b with b | ⟨a, xs, es, e1, e2, e3, b⟩
  · cases b with
    | lst e n r => exact ⟨_, _, rfl, e, r⟩
  · cases e2; exact ⟨a, xs, e1, e3, b⟩
theorem BrK.tuple {v : V} {ds : List D} (b : BrK K M av H v (.tuple ds)) : ∃ a xs, v = .ref a ∧ H a = some (.tup xs) ∧ BrL K M av H xs ds := by
  rcases b with b | ⟨a, xs, es, e1, e2, e3, b⟩
  · cases b with
    | tup e r => exact ⟨_, _, rfl, e, r⟩
  · cases e2
theorem BrK.int_ {v : V} {i : Int} (b : BrK K M av H v (.int i)) : v = .int i := by
  rcases b with b | ⟨a, xs, es, e1, e2, e3, b⟩
  · cases b; rfl
  · cases e2
theorem BrK.str_ {v : V} {i : Str} (b : BrK K M av H v (.str i)) : v = .str i := by
  rcases b with b | ⟨a, xs, es, e1, e2, e3, b⟩
  · cases b; rfl
  · cases e2
theorem BrK.bool_ {v : V} {i : Bool} (b : BrK K M av H v (.bool i)) : v = .bl i := by
  rcases b with b | ⟨a, xs, es, e1, e2, e3, b⟩
  · cases b; rfl
  · cases e2
theorem BrK.none_ {v : V} (b : BrK K M av H v .none) : v = .non := by
  rcases b with b | ⟨a, xs, es, e1, e2, e3, b⟩
  · cases b; rfl
  · cases e2
end

/-! ## the slots -/
inductive Sl where
  | no
  | va (d : D)
  | ow (ds : List D)
abbrev Ev := List Sl
def SlOk (K : PySem.W.Frag) (M : Mem) (H0 : Hp) (av0 av : Av) (H : Hp) (x : Option V) : Sl → Prop
  | .no => True
  | .va d => ∃ v, x = some v ∧ Br K M av H v d
  | .ow ds => ∃ a xs, x = some (.ref a) ∧ av a ∧ ¬ av0 a ∧ H0 a = none ∧ H a = some (.lst xs) ∧ BrL K M av H xs ds
/-- the table of the def that makes lambdas -/
def IsT (K : PySem.W.Frag) (TP : Addr) : Prop := ∃ (f c : Addr) (oc : Value) (od : Option Addr) (fd : FuncData) (osl : Array (Option Value)) (ee : Value) (ed : Option Addr) (vs : Array Value) (es : Array (Option Value)),
  PySem.W.nsIn K mainGlobals "_law_spoilt" = some (some (.ref f)) ∧ K.lookup f = some ⟨oc, od, .func fd, osl⟩ ∧ fd.code = .ref c ∧ K.lookup c = some ⟨ee, ed, .fields vs, es⟩ ∧ vs[11]? = some (.ref TP)
theorem IsT.uniq {K : PySem.W.Frag} {A B : Addr} (h : IsT K A) (k : IsT K B) : A = B := by
  obtain ⟨f, c, oc, od, fd, osl, ee, ed, vs, es, h1, h2, h3, h4, h5⟩ := h
  obtain ⟨f', c', oc', od', fd', osl', ee', ed', vs', es', k1, k2, k3, k4, k5⟩ := k
  rw [h1] at k1
  cases k1
  rw [h2] at k2
  cases k2
  rw [h3] at k3
  cases k3
  rw [h4] at k4
  cases k4
  rw [h5] at k5
  cases k5
  rfl
/-- what goes with every promise -/
def GL (K : PySem.W.Frag) (M : Mem) (H : Hp) : Prop := ∀ TP, IsT K TP → M H (.int 77) TP
theorem GL.mono {K : PySem.W.Frag} {M : Mem} {av : Av} {H H' : Hp} (g : GL K M H) (k : Kp M av H H') : GL K M H' := fun TP h => k.mm _ _ (g TP h)
structure Cor (K : PySem.W.Frag) (M : Mem) (H0 : Hp) (av0 av : Av) (H : Hp) (σ : L2.St) (ρ : Ev) : Prop where
  kp : Kp M noA H0 H
  dom : ∀ a, av a → H a ≠ none
  sub : ∀ a, av0 a → av a
  len : σ.length = ρ.length
  slot : ∀ (i : Nat) (s : Sl), ρ[i]? = some s → ∃ x, σ[i]? = some x ∧ SlOk K M H0 av0 av H x s
  sep : ∀ (i j : Nat) (ds es : List D) (a : Addr), ρ[i]? = some (.ow ds) → ρ[j]? = some (.ow es) → σ[i]? = some (some (.ref a)) → σ[j]? = some (some (.ref a)) → i = j
  gl : GL K M H
section
variable {K : PySem.W.Frag} {M : Mem} {H0 : Hp} {av0 av : Av} {H H' : Hp} {σ : L2.St} {ρ : Ev}
theorem SlOk.mono {x : Option V} {s : Sl} (k : Kp M noA H H') (h : SlOk K M H0 av0 av H x s) : SlOk K M H0 av0 av H' x s := by
  cases s with
  | no => trivial
  | va d => obtain ⟨v, e, b⟩ := h; exact ⟨v, e, b.mono k.of⟩
  | ow ds => obtain ⟨a, xs, e, h1, h2, h3, h4, b⟩ := h; exact ⟨a, xs, e, h1, h2, h3, k.lst _ _ (fun z => z) h4, b.mono k.of⟩
theorem Cor.mono (c : Cor K M H0 av0 av H σ ρ) (k : Kp M noA H H') : Cor K M H0 av0 av H' σ ρ :=
  ⟨c.kp.trans k, fun a z e => c.dom a z (k.dom a e), c.sub, c.len, fun i s e => let ⟨x, e1, o⟩ := c.slot i s e; ⟨x, e1, o.mono k⟩, c.sep, c.gl.mono k⟩
/-- a slot is filled with a datum -/
theorem Cor.setVa (c : Cor K M H0 av0 av H σ ρ) {i : Nat} {v : V} {d : D} (b : Br K M av H v d) : Cor K M H0 av0 av H (σ.set i (some v)) (ρ.set i (.va d)) := by
  refine ⟨c.kp, c.dom, c.sub, by rw [List.length_set, List.length_set]; exact c.len, fun j s e => ?_, fun j l ds es a e1 e2 e3 e4 => ?_, c.gl⟩
  · by_cases h : i = j
    · subst h
      have hl : i < ρ.length := by
        have := (List.getElem?_eq_some_iff.mp e).1
        simpa using this
      rw [List.getElem?_set_self hl] at e
      cases e
      exact ⟨some v, by rw [List.getElem?_set_self (by rw [c.len]; exact hl)], v, rfl, b⟩
    · rw [List.getElem?_set_ne h] at e
      obtain ⟨x, e1, o⟩ := c.slot j s e
      exact ⟨x, by rw [List.getElem?_set_ne h]; exact e1, o⟩
  · have key : ∀ {j : Nat} {ds : List D}, (ρ.set i (.va d))[j]? = some (.ow ds) → i ≠ j ∧ ρ[j]? = some (.ow ds) := fun {j ds} e => by
      by_cases h : i = j
      · subst h
        have hl : i < ρ.length := by
          have := (List.getElem?_eq_some_iff.mp e).1
          simpa using this
        rw [List.getElem?_set_self hl] at e
        cases e
      · rw [List.getElem?_set_ne h] at e
        exact ⟨h, e⟩
    obtain ⟨n1, g1⟩ := key e1
    obtain ⟨n2, g2⟩ := key e2
    rw [List.getElem?_set_ne n1] at e3
    rw [List.getElem?_set_ne n2] at e4
    exact c.sep j l ds es a g1 g2 e3 e4
theorem wipeE_len (ρ : Ev) : ∀ vs : List Nat, (vs.foldr (fun v r => r.set v .no) ρ).length = ρ.length
  | [] => rfl
  | v :: vs => by
    show ((vs.foldr (fun v r => r.set v .no) ρ).set v .no).length = _
    rw [List.length_set, wipeE_len ρ vs]
/-- slots forgotten -/
def wipeE (ρ : Ev) (vs : List Nat) : Ev := vs.foldr (fun v r => r.set v .no) ρ
theorem Cor.wipe1 (c : Cor K M H0 av0 av H σ ρ) (i : Nat) : Cor K M H0 av0 av H (σ.set i none) (ρ.set i .no) := by
  have key : ∀ {j : Nat} {s : Sl}, (ρ.set i .no)[j]? = some s → (i ≠ j ∧ ρ[j]? = some s) ∨ (i = j ∧ s = .no ∧ i < ρ.length) := fun {j s} e => by
    by_cases h : i = j
    · subst h
      have hl : i < ρ.length := by
        have := (List.getElem?_eq_some_iff.mp e).1
        simpa using this
      rw [List.getElem?_set_self hl] at e
      cases e
      exact .inr ⟨rfl, rfl, hl⟩
    · rw [List.getElem?_set_ne h] at e
      exact .inl ⟨h, e⟩
  refine ⟨c.kp, c.dom, c.sub, by rw [List.length_set, List.length_set]; exact c.len, fun j s e => ?_, fun j l ds es a e1 e2 e3 e4 => ?_, c.gl⟩
  · rcases key e with ⟨h, e⟩ | ⟨h, rfl, hl⟩
    · obtain ⟨x, e1, o⟩ := c.slot j s e
      exact ⟨x, by rw [List.getElem?_set_ne h]; exact e1, o⟩
    · subst h
      exact ⟨none, by rw [List.getElem?_set_self (by rw [c.len]; exact hl)], trivial⟩
  · rcases key e1 with ⟨n1, g1⟩ | ⟨_, z, _⟩
    · rcases key e2 with ⟨n2, g2⟩ | ⟨_, z, _⟩
      · rw [List.getElem?_set_ne n1] at e3
        rw [List.getElem?_set_ne n2] at e4
        exact c.sep j l ds es a g1 g2 e3 e4
      · cases z
    · cases z
theorem Cor.wipe (c : Cor K M H0 av0 av H σ ρ) : ∀ vs : List Nat, Cor K M H0 av0 av H (L2.wipe σ vs) (wipeE ρ vs)
  | [] => c
  | v :: vs => (Cor.wipe c vs).wipe1 v
end

/-! ## expressions -/
abbrev EF := Ev → Option D
abbrev BF := Ev → Option Bool
abbrev LF := Ev → Option (List D)
section
variable (K : PySem.W.Frag) (M : Mem)
def tE (f : EF) : TE := fun σ H Q => ∃ H0 av0 av ρ d, Cor K M H0 av0 av H σ ρ ∧ f ρ = some d ∧ ∀ v H', Kp M noA H H' → Br K M av H' v d → Q v H'
def tK (f : EF) : TE := fun σ H Q => ∃ H0 av0 av ρ d, Cor K M H0 av0 av H σ ρ ∧ f ρ = some d ∧ ∀ v H', Kp M noA H H' → BrK K M av H' v d → Q v H'
def tT (f : BF) : TT := fun σ H Q => ∃ H0 av0 av ρ b, Cor K M H0 av0 av H σ ρ ∧ f ρ = some b ∧ ∀ H', Kp M noA H H' → Q b H'
def tA (f : LF) : TA := fun σ H Q => ∃ H0 av0 av ρ ds, Cor K M H0 av0 av H σ ρ ∧ f ρ = some ds ∧ ∀ vs H', Kp M noA H H' → BrL K M av H' vs ds → Q vs H'
def tAK (f : LF) : TA := fun σ H Q => ∃ H0 av0 av ρ ds, Cor K M H0 av0 av H σ ρ ∧ f ρ = some ds ∧ ∀ vs H', Kp M noA H H' → BrKL K M av H' vs ds → Q vs H'
end
abbrev FE (X : Cx) (M : Mem) (e : Expr) (f : EF) : Prop := PE X e (tE X.K M f)
abbrev FK (X : Cx) (M : Mem) (e : Expr) (f : EF) : Prop := PE X e (tK X.K M f)
abbrev FT (X : Cx) (M : Mem) (e : Expr) (f : BF) : Prop := PT X e (tT X.K M f)
abbrev FW (X : Cx) (M : Mem) (e : Expr) (f : BF) : Prop := PW X e (tT X.K M f)
abbrev FA (X : Cx) (M : Mem) (es : List Expr) (f : LF) : Prop := PA X es (tA X.K M f)
abbrev FAK (X : Cx) (M : Mem) (es : List Expr) (f : LF) : Prop := PA X es (tAK X.K M f)

theorem PE.imp {X : Cx} {e : Expr} {t t' : TE} (h : PE X e t) (i : ∀ σ H Q, t' σ H Q → t σ H Q) : PE X e t' := ⟨fun pins s σ H Q I q => h.run pins s σ H Q I (i _ _ _ q)⟩
theorem PT.imp {X : Cx} {e : Expr} {t t' : TT} (h : PT X e t) (i : ∀ σ H Q, t' σ H Q → t σ H Q) : PT X e t' := ⟨fun pins s σ H Q I q => h.run pins s σ H Q I (i _ _ _ q)⟩
theorem PW.imp {X : Cx} {e : Expr} {t t' : TT} (h : PW X e t) (i : ∀ σ H Q, t' σ H Q → t σ H Q) : PW X e t' := ⟨fun wh pins s σ H Q I q => h.run wh pins s σ H Q I (i _ _ _ q)⟩
theorem PA.imp {X : Cx} {e : List Expr} {t t' : TA} (h : PA X e t) (i : ∀ σ H Q, t' σ H Q → t σ H Q) : PA X e t' := ⟨fun pos pins s σ H Q I q => h.run pos pins s σ H Q I (i _ _ _ q)⟩
theorem PS.imp {X : Cx} {e : Stmt} {t t' : TS} (h : PS X e t) (i : ∀ D σ H, t' D σ H → t D σ H) : PS X e t' := ⟨fun pins s σ H D I q => h.run pins s σ H D I (i _ _ _ q)⟩
theorem PSs.imp {X : Cx} {e : List Stmt} {t t' : TS} (h : PSs X e t) (i : ∀ D σ H, t' D σ H → t D σ H) : PSs X e t' := ⟨fun pins s σ H D I q => h.run pins s σ H D I (i _ _ _ q)⟩

/-! ### the plain functions -/
def cV (i : Nat) : EF := fun ρ => match ρ[i]? with
  | some (.va d) => some d
  | _ => none
def cO (i : Nat) : EF := fun ρ => match ρ[i]? with
  | some (.ow ds) => some (.list ds)
  | _ => none
def cC (d : D) : EF := fun _ => some d
def c1 (g : D → Option D) (f : EF) : EF := fun ρ => (f ρ).bind g
def c2 (g : D → D → Option D) (f h : EF) : EF := fun ρ => (f ρ).bind fun x => (h ρ).bind fun y => g x y
def cT1 (g : D → Option Bool) (f : EF) : BF := fun ρ => (f ρ).bind g
def cNil : LF := fun _ => some []
def cCons (f : EF) (r : LF) : LF := fun ρ => (f ρ).bind fun x => (r ρ).bind fun xs => some (x :: xs)
def cCall (g : List D → Option D) (f : LF) : EF := fun ρ => (f ρ).bind g
def cTup (f : LF) : EF := fun ρ => (f ρ).bind fun ds => if ds.length ≤ 1000 then some (.tuple ds) else none
def cLst (f : LF) : EF := fun ρ => (f ρ).bind fun ds => if ds.length ≤ 1000 then some (.list ds) else none
def asB : D → Option Bool
  | .bool b => some b
  | _ => none
def cIf (t : BF) (f h : EF) : EF := fun ρ => (t ρ).bind fun b => if b = true then f ρ else h ρ
def cAnd (t u : BF) : BF := fun ρ => (t ρ).bind fun b => if b = true then u ρ else some false
def cOr (t u : BF) : BF := fun ρ => (t ρ).bind fun b => if b = true then some true else u ρ
def cNot (t : BF) : BF := fun ρ => (t ρ).bind fun b => some (!b)
def cAndV (t u : EF) : EF := fun ρ => (t ρ).bind fun d => (asB d).bind fun b => if b = true then u ρ else some (.bool false)
def cOrV (t u : EF) : EF := fun ρ => (t ρ).bind fun d => (asB d).bind fun b => if b = true then some (.bool true) else u ρ
def notD (d : D) : Option D := (asB d).bind fun b => some (.bool (!b))

section
variable {X : Cx} {M : Mem} {a b e : Expr} {f h : EF} {pos : Pos}
theorem small1000' {n : Nat} (h : n ≤ 1000) : n ≤ sizeLine := by rw [sizeLine_eq]; omega
theorem fk_of (he : FE X M e f) : FK X M e f := PE.imp he fun σ H Q q => by
  obtain ⟨H0, av0, av, ρ, d, c, e, k⟩ := q
  exact ⟨H0, av0, av, ρ, d, c, e, fun v H' k1 b1 => k v H' k1 (.inl b1)⟩
theorem fe_var (i : Nat) (h : PE X e (tVar i)) : FE X M e (cV i) := PE.imp h fun σ H Q q => by
  obtain ⟨H0, av0, av, ρ, d, c, e, k⟩ := q
  unfold cV at e
  split at e
  · rename_i d' e'
    cases e
    obtain ⟨x, e1, v, rfl, b1⟩ := c.slot _ _ e'
    exact ⟨v, e1, k v H Kp.refl b1⟩
  · cases e
theorem fk_own (i : Nat) (h : PE X e (tVar i)) : FK X M e (cO i) := PE.imp h fun σ H Q q => by
  obtain ⟨H0, av0, av, ρ, d, c, e, k⟩ := q
  unfold cO at e
  split at e
  · rename_i d' e'
    cases e
    obtain ⟨x, e1, a, xs, rfl, h1, h2, h3, h4, b1⟩ := c.slot _ _ e'
    exact ⟨_, e1, k _ H Kp.refl (.inr ⟨a, xs, _, rfl, rfl, h4, b1⟩)⟩
  · cases e
theorem fe_const {v : V} {d : D} (h : PE X e (tC v)) (hb : ∀ av H, Br X.K M av H v d) : FE X M e (cC d) := PE.imp h fun σ H Q q => by
  obtain ⟨H0, av0, av, ρ, d', c, e, k⟩ := q
  cases e
  exact k v H Kp.refl (hb _ _)
theorem fe_int {i j pos} : FE X M (.Constant (.int i) j pos) (cC (.int i)) := fe_const pe_int fun _ _ => .int i
theorem fe_bl {i j pos} : FE X M (.Constant (.bool i) j pos) (cC (.bool i)) := fe_const pe_bl fun _ _ => .bl i
theorem fe_non {j pos} : FE X M (.Constant .none j pos) (cC .none) := fe_const pe_non fun _ _ => .non
theorem fe_str {i j pos} : FE X M (.Constant (.str i) j pos) (cC (.str i)) := fe_const pe_str fun _ _ => .str i

/-! ### operations -/
def r2 (K : PySem.W.Frag) (M : Mem) (g : D → D → Option D) : R2 := fun x y H Q => ∃ av d e r, BrK K M av H x d ∧ BrK K M av H y e ∧ (∀ a, av a → H a ≠ none) ∧ g d e = some r ∧ ∀ v H', Kp M noA H H' → Br K M av H' v r → Q v H'
def r1 (K : PySem.W.Frag) (M : Mem) (g : D → Option D) : V → Hp → VK → Prop := fun x H Q => ∃ av d r, BrK K M av H x d ∧ (∀ a, av a → H a ≠ none) ∧ g d = some r ∧ ∀ v H', Kp M noA H H' → Br K M av H' v r → Q v H'
def rC (K : PySem.W.Frag) (M : Mem) (g : List D → Option D) : List V → Hp → VK → Prop := fun xs H Q => ∃ av ds r, BrKL K M av H xs ds ∧ (∀ a, av a → H a ≠ none) ∧ g ds = some r ∧ ∀ v H', Kp M noA H H' → Br K M av H' v r → Q v H'
theorem bind_some {α β : Type} {o : Option α} {f : α → Option β} {r : β} (h : o.bind f = some r) : ∃ x, o = some x ∧ f x = some r := by
  cases o with
  | none => cases h
  | some x => exact ⟨x, rfl, h⟩
theorem two_of {ta : TE} {f h : EF} {g : D → D → Option D} {σ : L2.St} {H : Hp} {Q : VK} {r : R2} (hr : ∀ x y H Q, r2 X.K M g x y H Q → r x y H Q) (q : tE X.K M (c2 g f h) σ H Q) : tOp r (tK X.K M f) (tK X.K M h) σ H Q := by
  obtain ⟨H0, av0, av, ρ, d, c, e, k⟩ := q
  obtain ⟨x, e1, e⟩ := bind_some e
  obtain ⟨y, e2, e⟩ := bind_some e
  refine ⟨H0, av0, av, ρ, x, c, e1, fun v H1 k1 b1 => ?_⟩
  refine ⟨H0, av0, av, ρ, y, c.mono k1, e2, fun w H2 k2 b2 => ?_⟩
  refine hr _ _ _ _ ⟨av, x, y, d, b1.mono k2, b2, (c.mono (k1.trans k2)).dom, e, fun u H3 k3 b3 => k u H3 ((k1.trans k2).trans k3) b3⟩
theorem fe_op {op : Operator} {g : D → D → Option D} (ho : OpR X (binaryOp op) (r2 X.K M g)) (ha : FK X M a f) (hb : FK X M b h) : FE X M (.BinOp a op b pos) (c2 g f h) :=
  PE.imp (pe_op ho ha hb) fun σ H Q q => two_of (ta := fun _ _ _ => True) (fun _ _ _ _ z => z) q
theorem fe_cmp {op : CmpOp} {g : D → D → Option D} (ho : OpR X (compareOp op) (r2 X.K M g)) (ha : FK X M a f) (hb : FK X M b h) (hm : behindInMarks op b = false) : FE X M (.Compare a [op] [b] pos) (c2 g f h) :=
  PE.imp (pe_cmpR ho ha hb hm) fun σ H Q q => two_of (ta := fun _ _ _ => True) (fun _ _ _ _ z => z) q
theorem fe_ix {g : D → D → Option D} (ho : IxR X (r2 X.K M g)) (ha : FK X M a f) (hb : FK X M b h) (hs : PlainIx b) : FE X M (.Subscript a b pos) (c2 g f h) :=
  PE.imp (pe_ix ho ha hb hs) fun σ H Q q => two_of (ta := fun _ _ _ => True) (fun _ _ _ _ z => z) q
theorem fe_un {op : UnaryOp} {g : D → Option D} (ho : UnR X (unaryOp op) (r1 X.K M g)) (ha : FK X M a f) : FE X M (.UnaryOp op a pos) (c1 g f) :=
  PE.imp (pe_un ho ha) fun σ H Q q => by
    obtain ⟨H0, av0, av, ρ, d, c, e, k⟩ := q
    obtain ⟨x, e1, e⟩ := bind_some e
    refine ⟨H0, av0, av, ρ, x, c, e1, fun v H1 k1 b1 => ?_⟩
    exact ⟨av, x, d, b1, (c.mono k1).dom, e, fun u H3 k3 b3 => k u H3 (k1.trans k3) b3⟩
/-! ### argument lists -/
theorem fa_nil : FA X M [] cNil := PA.imp pa_nil fun σ H Q q => by
  obtain ⟨H0, av0, av, ρ, d, c, e, k⟩ := q
  cases e
  exact k [] H Kp.refl .nil
theorem fa_cons {es : List Expr} {r : LF} (ha : FE X M e f) (hr : FA X M es r) (hs : starEach (e :: es) X.env = (false, eval e X.env) :: starEach es X.env := by rfl) : FA X M (e :: es) (cCons f r) := PA.imp (pa_cons ha hr hs) fun σ H Q q => by
  obtain ⟨H0, av0, av, ρ, d, c, e, k⟩ := q
  obtain ⟨x, e1, e⟩ := bind_some e
  obtain ⟨xs, e2, e⟩ := bind_some e
  cases e
  refine ⟨H0, av0, av, ρ, x, c, e1, fun v H1 k1 b1 => ?_⟩
  refine ⟨H0, av0, av, ρ, xs, c.mono k1, e2, fun vs H2 k2 b2 => ?_⟩
  exact k (v :: vs) H2 (k1.trans k2) (.cons (b1.mono k2.of) b2)
theorem fak_nil : FAK X M [] cNil := PA.imp pa_nil fun σ H Q q => by
  obtain ⟨H0, av0, av, ρ, d, c, e, k⟩ := q
  cases e
  exact k [] H Kp.refl .nil
theorem fak_cons {es : List Expr} {r : LF} (ha : FK X M e f) (hr : FAK X M es r) (hs : starEach (e :: es) X.env = (false, eval e X.env) :: starEach es X.env := by rfl) : FAK X M (e :: es) (cCons f r) := PA.imp (pa_cons ha hr hs) fun σ H Q q => by
  obtain ⟨H0, av0, av, ρ, d, c, e, k⟩ := q
  obtain ⟨x, e1, e⟩ := bind_some e
  obtain ⟨xs, e2, e⟩ := bind_some e
  cases e
  refine ⟨H0, av0, av, ρ, x, c, e1, fun v H1 k1 b1 => ?_⟩
  refine ⟨H0, av0, av, ρ, xs, c.mono k1, e2, fun vs H2 k2 b2 => ?_⟩
  exact k (v :: vs) H2 (k1.trans k2) (.cons (b1.mono k2) b2)
theorem fe_tup {es : List Expr} {r : LF} {x1} (hM : MemOk M) (ha : FA X M es r) : FE X M (.Tuple es x1 pos) (cTup r) := PE.imp (pe_tup ha) fun σ H Q q => by
  obtain ⟨H0, av0, av, ρ, d, c, e, k⟩ := q
  obtain ⟨xs, e1, e⟩ := bind_some e
  split at e
  · rename_i hl
    cases e
    refine ⟨H0, av0, av, ρ, xs, c, e1, fun vs H1 k1 b1 => ⟨?_, fun p hp => ?_⟩⟩
    · rw [b1.length]; exact small1000' hl
    · exact k _ _ (k1.trans (Kp.new hM hp)) (.tup upd_same (b1.mono (Kp.new hM hp).of))
  · cases e
theorem fe_lst {es : List Expr} {r : LF} (hM : MemOk M) (ha : FA X M es r) : FE X M (.List es pos) (cLst r) := PE.imp (pe_lst ha) fun σ H Q q => by
  obtain ⟨H0, av0, av, ρ, d, c, e, k⟩ := q
  obtain ⟨xs, e1, e⟩ := bind_some e
  split at e
  · rename_i hl
    cases e
    refine ⟨H0, av0, av, ρ, xs, c, e1, fun vs H1 k1 b1 => ⟨?_, fun p hp => ?_⟩⟩
    · rw [b1.length]; exact small1000' hl
    · exact k _ _ (k1.trans (Kp.new hM hp)) (.lst upd_same (fun z => (c.mono k1).dom _ z hp) (b1.mono (Kp.new hM hp).of))
  · cases e
/-! ### calls of built-ins -/
theorem rc_of {es : List Expr} {r : LF} {g : List D → Option D} {σ : L2.St} {H : Hp} {Q : VK} (q : tE X.K M (cCall g r) σ H Q) : tAK X.K M r σ H fun vs H1 => rC X.K M g vs H1 Q := by
  obtain ⟨H0, av0, av, ρ, d, c, e, k⟩ := q
  obtain ⟨xs, e1, e⟩ := bind_some e
  refine ⟨H0, av0, av, ρ, xs, c, e1, fun vs H1 k1 b1 => ?_⟩
  exact ⟨av, xs, d, b1, (c.mono k1).dom, e, fun u H3 k3 b3 => k u H3 (k1.trans k3) b3⟩
theorem fe_callB {id : String} {x : Str} {p : Pos} {es : List Expr} {r : LF} {g : List D → Option D} (hc : CallR X (.builtin id) (rC X.K M g)) (hg : Gl X x) (hm : X.mg x = none) (hv : bootBuiltins x = some (.builtin id)) (ha : FAK X M (e :: es) r) (hn : x ≠ "__name__" := by decide)
    (hdb : (x == ("__debug__" : Str)) = false := by decide) (he : starEach (e :: es) X.env = (false, eval e X.env) :: starEach es X.env := by rfl) (hpl : (backTo pos (starEach es X.env)).any (·.1) = false := by rfl) : FE X M (.Call (.Name x p) (e :: es) [] pos) (cCall g r) :=
  PE.imp (pe_callB hc hg hm hv ha hn hdb he hpl) fun σ H Q q => rc_of (es := es) q
theorem fe_callTy {T : String} {x : Str} {p : Pos} {es : List Expr} {r : LF} {g : List D → Option D} (hc : CallR X (.type T) (rC X.K M g)) (hg : Gl X x) (hm : X.mg x = none) (hv : bootBuiltins x = some (.type T)) (ha : FAK X M (e :: es) r) (hn : x ≠ "__name__" := by decide)
    (hdb : (x == ("__debug__" : Str)) = false := by decide) (he : starEach (e :: es) X.env = (false, eval e X.env) :: starEach es X.env := by rfl) (hpl : (backTo pos (starEach es X.env)).any (·.1) = false := by rfl) : FE X M (.Call (.Name x p) (e :: es) [] pos) (cCall g r) :=
  PE.imp (pe_callTy hc hg hm hv ha hn hdb he hpl) fun σ H Q q => rc_of (es := es) q
/-! ### tests -/
theorem ft_val (he : FE X M e f) (hh : ∀ whole, isTrue e X.env whole = (do let v ← whole; standAt e.pos; holding [v] (truthy v)) := by intro _; rfl) : FT X M e (cT1 asB f) := PT.imp (pt_val he hh) fun σ H Q q => by
  obtain ⟨H0, av0, av, ρ, d, c, e, k⟩ := q
  obtain ⟨x, e1, e⟩ := bind_some e
  refine ⟨H0, av0, av, ρ, x, c, e1, fun v H1 k1 b1 => ?_⟩
  unfold asB at e
  split at e
  · cases e
    cases b1
    exact ⟨_, rfl, k H1 k1⟩
  · cases e
theorem ft_cmp {op : CmpOp} {g : D → D → Option D} (ho : OpR X (compareOp op) (r2 X.K M g)) (ha : FK X M a f) (hb : FK X M b h) (hm : behindInMarks op b = false) : FT X M (.Compare a [op] [b] pos) (cT1 asB (c2 g f h)) :=
  PT.imp (pt_cmpR ho ha hb hm) fun σ H Q q => by
    obtain ⟨H0, av0, av, ρ, d, c, e, k⟩ := q
    obtain ⟨x, e1, e⟩ := bind_some e
    refine two_of (ta := fun _ _ _ => True) (g := g) (fun _ _ _ _ z => z) ⟨H0, av0, av, ρ, x, c, e1, fun v H1 k1 b1 => ?_⟩
    unfold asB at e
    split at e
    · cases e
      cases b1
      exact ⟨_, rfl, k H1 k1⟩
    · cases e
theorem fw_pt {t : BF} (h : FW X M e t) : FT X M e t := PW.pt h
theorem fw_and1 {t : BF} (h : FT X M e t) : FW X M (.BoolOp .And [e] pos) t := pw_and1 h
theorem fw_or1 {t : BF} (h : FT X M e t) : FW X M (.BoolOp .Or [e] pos) t := pw_or1 h
theorem fw_and {t u : BF} {rest : List Expr} (ha : FT X M a t) (hb : FW X M (.BoolOp .And (b :: rest) pos) u) : FW X M (.BoolOp .And (a :: b :: rest) pos) (cAnd t u) := PW.imp (pw_and ha hb) fun σ H Q q => by
  obtain ⟨H0, av0, av, ρ, d, c, e, k⟩ := q
  obtain ⟨x, e1, e⟩ := bind_some e
  refine ⟨H0, av0, av, ρ, x, c, e1, fun H1 k1 => ?_⟩
  cases x with
  | true => exact ⟨H0, av0, av, ρ, d, c.mono k1, e, fun H2 k2 => k H2 (k1.trans k2)⟩
  | false => cases e; exact k H1 k1
theorem fw_or {t u : BF} {rest : List Expr} (ha : FT X M a t) (hb : FW X M (.BoolOp .Or (b :: rest) pos) u) : FW X M (.BoolOp .Or (a :: b :: rest) pos) (cOr t u) := PW.imp (pw_or ha hb) fun σ H Q q => by
  obtain ⟨H0, av0, av, ρ, d, c, e, k⟩ := q
  obtain ⟨x, e1, e⟩ := bind_some e
  refine ⟨H0, av0, av, ρ, x, c, e1, fun H1 k1 => ?_⟩
  cases x with
  | false => exact ⟨H0, av0, av, ρ, d, c.mono k1, e, fun H2 k2 => k H2 (k1.trans k2)⟩
  | true => cases e; exact k H1 k1
theorem ft_not {t : BF} (ha : FT X M a t) : FT X M (.UnaryOp .Not a pos) (cNot t) := PT.imp (pt_not ha) fun σ H Q q => by
  obtain ⟨H0, av0, av, ρ, d, c, e, k⟩ := q
  obtain ⟨x, e1, e⟩ := bind_some e
  cases e
  exact ⟨H0, av0, av, ρ, x, c, e1, fun H1 k1 => k H1 k1⟩
/-! ### and, or, not as values -/
theorem fe_one {op} (h : FE X M e f) : FE X M (.BoolOp op [e] pos) f := pe_one h
theorem fe_and {rest : List Expr} (ha : FE X M a f) (hb : FE X M (.BoolOp .And (b :: rest) pos) h) : FE X M (.BoolOp .And (a :: b :: rest) pos) (cAndV f h) := PE.imp (pe_and ha hb) fun σ H Q q => by
  obtain ⟨H0, av0, av, ρ, d, c, e, k⟩ := q
  obtain ⟨x, e1, e⟩ := bind_some e
  obtain ⟨y, e2, e⟩ := bind_some e
  refine ⟨H0, av0, av, ρ, x, c, e1, fun v H1 k1 b1 => ?_⟩
  unfold asB at e2
  split at e2
  · cases e2
    cases b1
    refine ⟨_, rfl, ?_⟩
    cases y with
    | true => exact ⟨H0, av0, av, ρ, d, c.mono k1, e, fun v H2 k2 b2 => k v H2 (k1.trans k2) b2⟩
    | false => cases e; exact k _ H1 k1 (.bl false)
  · cases e2
theorem fe_or {rest : List Expr} (ha : FE X M a f) (hb : FE X M (.BoolOp .Or (b :: rest) pos) h) : FE X M (.BoolOp .Or (a :: b :: rest) pos) (cOrV f h) := PE.imp (pe_or ha hb) fun σ H Q q => by
  obtain ⟨H0, av0, av, ρ, d, c, e, k⟩ := q
  obtain ⟨x, e1, e⟩ := bind_some e
  obtain ⟨y, e2, e⟩ := bind_some e
  refine ⟨H0, av0, av, ρ, x, c, e1, fun v H1 k1 b1 => ?_⟩
  unfold asB at e2
  split at e2
  · cases e2
    cases b1
    refine ⟨_, rfl, ?_⟩
    cases y with
    | false => exact ⟨H0, av0, av, ρ, d, c.mono k1, e, fun v H2 k2 b2 => k v H2 (k1.trans k2) b2⟩
    | true => cases e; exact k _ H1 k1 (.bl true)
  · cases e2
theorem fe_not (ha : FE X M a f) : FE X M (.UnaryOp .Not a pos) (c1 notD f) := PE.imp (pe_not ha) fun σ H Q q => by
  obtain ⟨H0, av0, av, ρ, d, c, e, k⟩ := q
  obtain ⟨x, e1, e⟩ := bind_some e
  refine ⟨H0, av0, av, ρ, x, c, e1, fun v H1 k1 b1 => ?_⟩
  obtain ⟨y, e2, e⟩ := bind_some e
  cases e
  unfold asB at e2
  split at e2
  · cases e2
    cases b1
    exact ⟨_, rfl, k _ H1 k1 (.bl _)⟩
  · cases e2
theorem fe_if {c : Expr} {t : BF} (hc : FT X M c t) (ha : FE X M a f) (hb : FE X M b h) : FE X M (.IfExp c a b pos) (cIf t f h) := PE.imp (pe_ifExp hc ha hb) fun σ H Q q => by
  obtain ⟨H0, av0, av, ρ, d, c, e, k⟩ := q
  obtain ⟨x, e1, e⟩ := bind_some e
  refine ⟨H0, av0, av, ρ, x, c, e1, fun H1 k1 => ?_⟩
  cases x with
  | true => exact ⟨H0, av0, av, ρ, d, c.mono k1, e, fun v H2 k2 b2 => k v H2 (k1.trans k2) b2⟩
  | false => exact ⟨H0, av0, av, ρ, d, c.mono k1, e, fun v H2 k2 b2 => k v H2 (k1.trans k2) b2⟩
end
end G

namespace G
open PySem PySem.Spec PyProof.Rows L2

/-! ## fresh lists -/
def andA (av : Av) (p : Addr) : Av := fun a => av a ∨ a = p
section
variable (K : PySem.W.Frag) (M : Mem)
/-- a list that nobody else has -/
def tN (f : LF) : TE := fun σ H Q => ∃ H0 av0 av ρ ds, Cor K M H0 av0 av H σ ρ ∧ f ρ = some ds ∧ ∀ a xs H', Kp M noA H H' → H a = none → H' a = some (.lst xs) → BrL K M (andA av a) H' xs ds → Q (.ref a) H'
end
abbrev FN (X : Cx) (M : Mem) (e : Expr) (f : LF) : Prop := PE X e (tN X.K M f)
def cL (f : LF) : EF := fun ρ => (f ρ).bind fun ds => some (.list ds)
def lim : Nat := 16777216
theorem lim_ok {n : Nat} (h : n ≤ lim) : n ≤ sizeLine := by rw [sizeLine_eq]; exact h
section
variable {X : Cx} {M : Mem} {a b e : Expr} {pos : Pos}
theorem andA_new {av : Av} {H : Hp} {p : Addr} (h : H p = none) : ∀ a, andA av p a → av a ∨ H a = none := fun a z => z.imp id fun (e : a = p) => by rw [e]; exact h
theorem fe_new {f : LF} (h : FN X M e f) : FE X M e (cL f) := PE.imp h fun σ H Q q => by
  obtain ⟨H0, av0, av, ρ, d, c, e, k⟩ := q
  obtain ⟨ds, e1, e⟩ := bind_some e
  cases e
  exact ⟨H0, av0, av, ρ, ds, c, e1, fun a xs H' k1 n1 h1 b1 => k _ H' k1 (.lst h1 (fun z => c.dom _ z n1) (b1.weak fun c z => .inl (.inl z)))⟩
def chk (n : Nat) (f : LF) : LF := fun ρ => (f ρ).bind fun ds => if ds.length ≤ n then some ds else none
theorem fn_lst {es : List Expr} {r : LF} (hM : MemOk M) (ha : FA X M es r) : FN X M (.List es pos) (chk 1000 r) := PE.imp (pe_lst ha) fun σ H Q q => by
  obtain ⟨H0, av0, av, ρ, d, c, e, k⟩ := q
  obtain ⟨xs, e1, e⟩ := bind_some e
  split at e
  · rename_i hl
    cases e
    refine ⟨H0, av0, av, ρ, _, c, e1, fun vs H1 k1 b1 => ⟨?_, fun p hp => ?_⟩⟩
    · rw [b1.length]; exact small1000' hl
    · exact k _ _ _ (k1.trans (Kp.new hM hp)) (k1.dom _ hp) upd_same ((b1.weak (andA_new hp)).mono (Kp.new hM hp).of)
  · cases e
/-- a + b of lists -/
def cCat (f h : EF) : LF := fun ρ => (f ρ).bind fun x => (h ρ).bind fun y => match x, y with
  | .list xs, .list ys => if xs.length + ys.length ≤ lim then some (xs ++ ys) else none
  | _, _ => none
theorem fn_cat {f h : EF} (hM : MemOk M) (ha : FK X M a f) (hb : FK X M b h) : FN X M (.BinOp a .Add b pos) (cCat f h) := PE.imp (pe_op op_cat ha hb) fun σ H Q q => by
  obtain ⟨H0, av0, av, ρ, d, c, e, k⟩ := q
  obtain ⟨x, e1, e⟩ := bind_some e
  obtain ⟨y, e2, e⟩ := bind_some e
  refine ⟨H0, av0, av, ρ, x, c, e1, fun v H1 k1 b1 => ?_⟩
  refine ⟨H0, av0, av, ρ, y, c.mono k1, e2, fun w H2 k2 b2 => ?_⟩
  split at e
  · rename_i xs ys
    split at e
    · rename_i hl
      cases e
      obtain ⟨p, us, rfl, hp, r1⟩ := (b1.mono k2).list
      obtain ⟨q, ws, rfl, hq, r2⟩ := b2.list
      refine ⟨p, q, us, ws, rfl, rfl, hp, hq, ?_, fun l hl => ?_⟩
      · rw [r1.length, r2.length]; exact lim_ok (by assumption)
      · have kn := Kp.new (o := HO.lst (us ++ ws)) hM hl
        exact k _ _ _ ((k1.trans k2).trans kn) ((k1.trans k2).dom _ hl) upd_same (((r1.append r2).weak (andA_new hl)).mono kn.of)
    · cases e
  · cases e
end

/-! ## targets -/
abbrev GF := D → Ev → Option Ev
abbrev GsF := List D → Ev → Option Ev
section
variable (K : PySem.W.Frag) (M : Mem)
def tG (g : GF) (vs : List Nat) : TG := fun v σ H Q => ∃ H0 av0 av ρ d ρ', Cor K M H0 av0 av H σ ρ ∧ Br K M av H v d ∧ g d ρ = some ρ' ∧ ∀ σ', L2.wipe σ' vs = L2.wipe σ vs → Cor K M H0 av0 av H σ' ρ' → Q σ' H
def tGs (g : GsF) (vs : List Nat) : TGs := fun us σ H Q => ∃ H0 av0 av ρ ds ρ', Cor K M H0 av0 av H σ ρ ∧ BrL K M av H us ds ∧ g ds ρ = some ρ' ∧ ∀ σ', L2.wipe σ' vs = L2.wipe σ vs → Cor K M H0 av0 av H σ' ρ' → Q σ' H
end
abbrev FG (X : Cx) (M : Mem) (e : Expr) (g : GF) (vs : List Nat) : Prop := PG X e (tG X.K M g vs)
abbrev FGs (X : Cx) (M : Mem) (e : List Expr) (g : GsF) (vs : List Nat) : Prop := PGs X e (tGs X.K M g vs)
theorem PG.imp {X : Cx} {e : Expr} {t t' : TG} (h : PG X e t) (i : ∀ v σ H Q, t' v σ H Q → t v σ H Q) : PG X e t' := ⟨fun pins s σ H v u Q I r q => h.run pins s σ H v u Q I r (i _ _ _ _ q)⟩
theorem PGs.imp {X : Cx} {e : List Expr} {t t' : TGs} (h : PGs X e t) (i : ∀ v σ H Q, t' v σ H Q → t v σ H Q) : PGs X e t' := ⟨fun pins s σ H v u Q I r q => h.run pins s σ H v u Q I r (i _ _ _ _ q)⟩
def gV (i : Nat) : GF := fun d ρ => some (ρ.set i (.va d))
def gN : GsF := fun ds ρ => match ds with
  | [] => some ρ
  | _ => none
def gC (g : GF) (r : GsF) : GsF := fun ds ρ => match ds with
  | d :: t => (g d ρ).bind fun ρ1 => r t ρ1
  | _ => none
def gT (n : Nat) (g : GsF) : GF := fun d ρ => match d with
  | .tuple ds => if ds.length = n then g ds ρ else none
  | _ => none
theorem wipe_get (σ : L2.St) : ∀ (vs : List Nat) (i : Nat), (L2.wipe σ vs)[i]? = if i ∈ vs ∧ i < σ.length then some none else σ[i]?
  | [], i => by simp [L2.wipe]
  | v :: vs, i => by
    unfold L2.wipe
    by_cases h : v = i
    · subst h
      by_cases hl : v < σ.length
      · rw [List.getElem?_set_self (by rw [wipe_length]; exact hl)]
        simp [hl]
      · rw [List.getElem?_eq_none (by rw [List.length_set, wipe_length]; omega), if_neg (by simp [hl]), List.getElem?_eq_none (by omega)]
    · rw [List.getElem?_set_ne h, wipe_get σ vs i]
      have : (i ∈ v :: vs) ↔ i ∈ vs := by simp [List.mem_cons, Ne.symm h]
      simp only [this]
theorem wipe_set (σ : L2.St) {i : Nat} {x : Option V} {vs : List Nat} (h : i ∈ vs) : L2.wipe (σ.set i x) vs = L2.wipe σ vs := by
  apply List.ext_getElem?
  intro j
  rw [wipe_get, wipe_get, List.length_set]
  by_cases hj : i = j
  · subst hj
    by_cases hl : i < σ.length
    · rw [if_pos ⟨h, hl⟩, if_pos ⟨h, hl⟩]
    · rw [if_neg (fun z => hl z.2), if_neg (fun z => hl z.2), List.set_eq_of_length_le (by omega)]
  · rw [List.getElem?_set_ne hj]
theorem wipe_wipe (σ : L2.St) (vs : List Nat) : L2.wipe (L2.wipe σ vs) vs = L2.wipe σ vs := by
  apply List.ext_getElem?
  intro j
  rw [wipe_get, wipe_get, wipe_length]
  split <;> rfl
theorem wipe_sub {σ σ' : L2.St} {vs ws : List Nat} (hs : ∀ v ∈ vs, v ∈ ws) (h : L2.wipe σ' vs = L2.wipe σ vs) : L2.wipe σ' ws = L2.wipe σ ws := by
  have hl : σ'.length = σ.length := by rw [← wipe_length σ' vs, h, wipe_length]
  apply List.ext_getElem?
  intro j
  have e : (L2.wipe σ' vs)[j]? = (L2.wipe σ vs)[j]? := congrArg (fun l : L2.St => l[j]?) h
  rw [wipe_get, wipe_get, hl] at e
  rw [wipe_get, wipe_get, hl]
  by_cases h1 : j ∈ ws ∧ j < σ.length
  · rw [if_pos h1, if_pos h1]
  · rw [if_neg h1, if_neg h1]
    have h2 : ¬ (j ∈ vs ∧ j < σ.length) := fun z => h1 ⟨hs j z.1, z.2⟩
    rw [if_neg h2, if_neg h2] at e
    exact e
section
variable {X : Cx} {M : Mem} {e : Expr} {pos : Pos}
theorem fg_name {i : Nat} (h : PG X e (gName i)) : FG X M e (gV i) [i] := PG.imp h fun v σ H Q q => by
  obtain ⟨H0, av0, av, ρ, d, ρ', c, b, e1, k⟩ := q
  cases e1
  exact k _ (wipe_set σ (by simp)) (c.setVa b)
theorem fgs_nil : FGs X M [] gN [] := PGs.imp pgs_nil fun v σ H Q q => by
  obtain ⟨H0, av0, av, ρ, d, ρ', c, b, e1, k⟩ := q
  unfold gN at e1
  split at e1
  · cases e1
    cases b
    exact ⟨rfl, k σ rfl c⟩
  · cases e1
theorem fgs_cons {es : List Expr} {g : GF} {r : GsF} {vs ws : List Nat} (h1 : FG X M e g vs) (h2 : FGs X M es r ws) (hs : (assignEach (e :: es) X.env).map (·.2) = assign e X.env :: (assignEach es X.env).map (·.2) := by rfl) : FGs X M (e :: es) (gC g r) (vs ++ ws) := PGs.imp (pgs_cons h1 h2 hs) fun us σ H Q q => by
  obtain ⟨H0, av0, av, ρ, ds, ρ', c, b, e1, k⟩ := q
  unfold gC at e1
  split at e1
  · obtain ⟨ρ1, e2, e1⟩ := bind_some e1
    cases b with
    | cons b bs =>
      refine ⟨_, _, rfl, H0, av0, av, ρ, _, ρ1, c, b, e2, fun σ1 w1 c1 => ?_⟩
      refine ⟨H0, av0, av, ρ1, _, ρ', c1, bs, e1, fun σ2 w2 c2 => ?_⟩
      refine k σ2 ?_ c2
      exact (wipe_sub (fun v hv => List.mem_append_right _ hv) w2).trans (wipe_sub (fun v hv => List.mem_append_left _ hv) w1)
  · cases e1
theorem fg_tup {es : List Expr} {g : GsF} {vs : List Nat} {n k : Nat} (hc : X.calm = true) (h : FGs X M es g vs) (hn : (assignEach es X.env).length = n := by rfl) (hst : (assignEach es X.env).findIdx? (·.1) = none := by rfl) : FG X M (.Tuple es k pos) (gT n g) vs := PG.imp (pg_tup hc h hn hst) fun v σ H Q q => by
  obtain ⟨H0, av0, av, ρ, d, ρ', c, b, e1, k⟩ := q
  unfold gT at e1
  split at e1
  · split at e1
    · rename_i hl
      cases b with
      | tup hx r => exact ⟨_, _, rfl, SqT.of hx, r.length.trans hl, H0, av0, av, ρ, _, ρ', c, r, e1, k⟩
    · cases e1
  · cases e1
end

/-! ## statements -/
inductive Out where
  | nx (ρ : Ev)
  | rt (d : D)
  | bk (ρ : Ev)
  | ct (ρ : Ev)
abbrev SF := Ev → Option Out
section
variable (K : PySem.W.Frag) (M : Mem)
/-- behind a statement -/
def Aft (H0 : Hp) (av0 av : Av) (H : Hp) (ρ' : Ev) (Q : L2.St → Hp → Prop) : Prop :=
  ∀ av' σ' H', Kp M av H H' → (∀ a, av' a → av a ∨ H a = none) → Cor K M H0 av0 av' H' σ' ρ' → Q σ' H'
def OutOk (H0 : Hp) (av0 av : Av) (H : Hp) (D : Ends) : Out → Prop
  | .nx ρ' => Aft K M H0 av0 av H ρ' D.nx
  | .rt d => ∀ v H', Kp M noA H0 H' → Br K M av0 H' v d → D.rt v H'
  | .bk ρ' => Aft K M H0 av0 av H ρ' D.bk
  | .ct ρ' => Aft K M H0 av0 av H ρ' D.ct
def tS (F : SF) : TS := fun D σ H => ∃ H0 av0 av ρ o, Cor K M H0 av0 av H σ ρ ∧ F ρ = some o ∧ OutOk K M H0 av0 av H D o
end
abbrev FS (X : Cx) (M : Mem) (e : Stmt) (F : SF) : Prop := PS X e (tS X.K M F)
abbrev FSs (X : Cx) (M : Mem) (e : List Stmt) (F : SF) : Prop := PSs X e (tS X.K M F)
def cNext : SF := fun ρ => some (.nx ρ)
def cBrk : SF := fun ρ => some (.bk ρ)
def cCnt : SF := fun ρ => some (.ct ρ)
def cSeq (F G : SF) : SF := fun ρ => (F ρ).bind fun o => match o with
  | .nx ρ' => G ρ'
  | o => some o
def cAsg (f : EF) (g : GF) : SF := fun ρ => (f ρ).bind fun d => (g d ρ).bind fun ρ' => some (.nx ρ')
def cRet (f : EF) : SF := fun ρ => (f ρ).bind fun d => some (.rt d)
def cDrop (f : EF) : SF := fun ρ => (f ρ).bind fun _ => some (.nx ρ)
def cIfS (t : BF) (F G : SF) : SF := fun ρ => (t ρ).bind fun b => if b = true then F ρ else G ρ
def cOwn (i : Nat) (f : LF) : SF := fun ρ => (f ρ).bind fun ds => some (.nx (ρ.set i (.ow ds)))
/-- own no more -/
def cFrz (i : Nat) : SF := fun ρ => match ρ[i]? with
  | some (.ow ds) => some (.nx (ρ.set i (.va (.list ds))))
  | _ => none
def cApp (i : Nat) (f : EF) : SF := fun ρ => match ρ[i]? with
  | some (.ow ds) => (f ρ).bind fun d => if ds.length < lim then some (.nx (ρ.set i (.ow (ds ++ [d])))) else none
  | _ => none
def cExt (i : Nat) (f : EF) : SF := fun ρ => match ρ[i]? with
  | some (.ow ds) => (f ρ).bind fun d => match d with
    | .list es => if ds.length + es.length ≤ lim then some (.nx (ρ.set i (.ow (ds ++ es)))) else none
    | _ => none
  | _ => none
def cPut (i : Nat) (f h : EF) : SF := fun ρ => (f ρ).bind fun d => match ρ[i]? with
  | some (.ow ds) => (h ρ).bind fun k => match k with
    | .int k => (ixN ds.length k).bind fun j => some (.nx (ρ.set i (.ow (ds.set j d))))
    | _ => none
  | _ => none
def cNever : SF := fun _ => none

section
variable {K : PySem.W.Frag} {M : Mem} {H0 : Hp} {av0 av av' : Av} {H H' : Hp} {σ : L2.St} {ρ ρ' : Ev} {Q : L2.St → Hp → Prop} {Dn : Ends} {o : Out}
theorem Kp.step {H2 : Hp} (k1 : Kp M av H H') (s : ∀ a, av' a → av a ∨ H a = none) (k2 : Kp M av' H' H2) : Kp M av H H2 :=
  ⟨fun a xs n e => k2.lst a xs (fun z => (s a z).elim n fun q => by rw [q] at e; cases e) (k1.lst a xs n e), fun a o u e => k2.frz a o u (k1.frz a o u e), fun a xs e => k2.tup a xs (k1.tup a xs e), fun k a e => k2.mm k a (k1.mm k a e), fun a e => k1.dom a (k2.dom a e)⟩
theorem sub_step {av2 : Av} (k1 : Kp M av H H') (s : ∀ a, av' a → av a ∨ H a = none) (s2 : ∀ a, av2 a → av' a ∨ H' a = none) : ∀ a, av2 a → av a ∨ H a = none :=
  fun a z => (s2 a z).elim (s a) fun e => .inr (k1.dom a e)
theorem Aft.step (k1 : Kp M av H H') (s : ∀ a, av' a → av a ∨ H a = none) (h : Aft K M H0 av0 av H ρ' Q) : Aft K M H0 av0 av' H' ρ' Q :=
  fun av2 σ2 H2 k2 s2 c2 => h av2 σ2 H2 (k1.step s k2) (sub_step k1 s s2) c2
theorem OutOk.step (k1 : Kp M av H H') (s : ∀ a, av' a → av a ∨ H a = none) (h : OutOk K M H0 av0 av H Dn o) : OutOk K M H0 av0 av' H' Dn o := by
  cases o with
  | nx ρ' => exact Aft.step k1 s h
  | rt d => exact h
  | bk ρ' => exact Aft.step k1 s h
  | ct ρ' => exact Aft.step k1 s h
theorem sub_refl : ∀ a, av a → av a ∨ H a = none := fun _ z => .inl z
theorem Aft.now (h : Aft K M H0 av0 av H ρ' Q) {σ' : L2.St} (k : Kp M noA H H') (c : Cor K M H0 av0 av H' σ' ρ') : Q σ' H' := h av σ' H' k.of sub_refl c
/-- a slot is filled with a list that is owned from now on -/
theorem Cor.setOw (c : Cor K M H0 av0 av H σ ρ) {i : Nat} {a : Addr} {xs : List V} {ds : List D} (k : Kp M noA H H') (n : H a = none) (e : H' a = some (.lst xs)) (b : BrL K M (andA av a) H' xs ds) : Cor K M H0 av0 (andA av a) H' (σ.set i (some (.ref a))) (ρ.set i (.ow ds)) := by
  have n0 : H0 a = none := c.kp.dom a n
  have na : ¬ av a := fun z => c.dom a z n
  have old : ∀ {x : Option V} {s : Sl}, SlOk K M H0 av0 av H x s → SlOk K M H0 av0 (andA av a) H' x s := fun {x s} o => by
    cases s with
    | no => trivial
    | va d => obtain ⟨v, e, b⟩ := o; exact ⟨v, e, (b.weak (andA_new n)).mono k.of⟩
    | ow ds => obtain ⟨p, ys, e, h1, h2, h3, h4, b⟩ := o; exact ⟨p, ys, e, .inl h1, h2, h3, k.lst _ _ (fun z => z) h4, (b.weak (andA_new n)).mono k.of⟩
  have key : ∀ {j : Nat} {s : Sl}, (ρ.set i (.ow ds))[j]? = some s → (i ≠ j ∧ ρ[j]? = some s) ∨ (i = j ∧ s = .ow ds ∧ i < ρ.length) := fun {j s} e => by
    by_cases h : i = j
    · subst h
      have hl : i < ρ.length := by
        have := (List.getElem?_eq_some_iff.mp e).1
        simpa using this
      rw [List.getElem?_set_self hl] at e
      cases e
      exact .inr ⟨rfl, rfl, hl⟩
    · rw [List.getElem?_set_ne h] at e
      exact .inl ⟨h, e⟩
  have ownA : ∀ {j : Nat} {es : List D} {p : Addr}, ρ[j]? = some (.ow es) → σ[j]? = some (some (.ref p)) → p ≠ a := fun {j es p} e1 e2 z => by
    obtain ⟨x, e3, p', ys, rfl, h1, _⟩ := c.slot _ _ e1
    rw [e2] at e3
    cases e3
    rw [z] at h1
    exact na h1
  refine ⟨c.kp.trans k, fun p z => ?_, fun p z => .inl (c.sub p z), by rw [List.length_set, List.length_set]; exact c.len, fun j s g => ?_, fun j l es fs p e1 e2 e3 e4 => ?_, c.gl.mono k⟩
  · rcases z with z | z
    · exact fun q => c.dom p z (k.dom p q)
    · rw [z, e]; exact fun q => nomatch q
  · rcases key g with ⟨h, g⟩ | ⟨h, rfl, hl⟩
    · obtain ⟨x, e1, o⟩ := c.slot j s g
      exact ⟨x, by rw [List.getElem?_set_ne h]; exact e1, old o⟩
    · subst h
      exact ⟨some (.ref a), by rw [List.getElem?_set_self (by rw [c.len]; exact hl)], a, xs, rfl, .inr rfl, fun z => na (c.sub a z), n0, e, b⟩
  · rcases key e1 with ⟨n1, g1⟩ | ⟨n1, _, hl1⟩
    · rcases key e2 with ⟨n2, g2⟩ | ⟨n2, _, hl2⟩
      · rw [List.getElem?_set_ne n1] at e3
        rw [List.getElem?_set_ne n2] at e4
        exact c.sep j l es fs p g1 g2 e3 e4
      · rw [List.getElem?_set_ne n1] at e3
        subst n2
        rw [List.getElem?_set_self (by rw [c.len]; exact hl2)] at e4
        cases e4
        exact absurd rfl (ownA g1 e3)
    · subst n1
      rw [List.getElem?_set_self (by rw [c.len]; exact hl1)] at e3
      cases e3
      rcases key e2 with ⟨n2, g2⟩ | ⟨n2, _, hl2⟩
      · rw [List.getElem?_set_ne n2] at e4
        exact absurd rfl (ownA g2 e4)
      · exact n2
/-- an owned list is written -/
theorem Cor.write (hM : MemOk M) (c : Cor K M H0 av0 av H σ ρ) {i : Nat} {a : Addr} {xs ys : List V} {ds es : List D} (hM2 : ∀ k p, M H k p → M (upd H a (.lst ys)) k p) (h1 : ρ[i]? = some (.ow ds)) (h2 : σ[i]? = some (some (.ref a))) (hx : H a = some (.lst xs)) (b : BrL K M av H ys es) :
    Kp M av H (upd H a (.lst ys)) ∧ Cor K M H0 av0 av (upd H a (.lst ys)) σ (ρ.set i (.ow es)) := by
  obtain ⟨x, e3, p', zs, rfl, ha, na0, n0, hx', _⟩ := c.slot _ _ h1
  rw [h2] at e3
  cases e3
  have kw : Kp M av H (upd H a (.lst ys)) := by
    refine ⟨fun p us n e => ?_, fun p o u e => ?_, fun p us e => ?_, hM2, fun p e => ?_⟩
    · rw [upd_ne (fun z => n (by rw [z]; exact ha))]; exact e
    · rw [upd_ne (ne_of e hx (fun z => nomatch z))]; exact e
    · rw [upd_ne (ne_of e hx (fun z => nomatch z))]; exact e
    · by_cases z : p = a
      · subst z; rw [upd_same] at e; cases e
      · rw [upd_ne z] at e; exact e
  have hl : i < ρ.length := (List.getElem?_eq_some_iff.mp h1).1
  refine ⟨kw, ?_⟩
  refine ⟨⟨fun p us n e => ?_, fun p o u e => ?_, fun p us e => ?_, fun k p e => kw.mm k p (c.kp.mm k p e), fun p e => c.kp.dom p (kw.dom p e)⟩, fun p z e => c.dom p z (kw.dom p e), c.sub, by rw [List.length_set]; exact c.len, fun j s g => ?_, fun j l es' fs p e1 e2 e3 e4 => ?_, c.gl.mono kw⟩
  · have ne : p ≠ a := fun z => by rw [z, n0] at e; cases e
    rw [upd_ne ne]
    exact c.kp.lst p us (fun z => z) e
  · exact kw.frz p o u (c.kp.frz p o u e)
  · exact kw.tup p us (c.kp.tup p us e)
  · by_cases h : i = j
    · subst h
      rw [List.getElem?_set_self hl] at g
      cases g
      exact ⟨_, h2, a, ys, rfl, ha, na0, n0, upd_same, b.mono kw⟩
    · rw [List.getElem?_set_ne h] at g
      obtain ⟨x, e1, o⟩ := c.slot j s g
      refine ⟨x, e1, ?_⟩
      cases s with
      | no => trivial
      | va d => obtain ⟨v, e, b⟩ := o; exact ⟨v, e, b.mono kw⟩
      | ow us =>
        obtain ⟨p, zs, rfl, q1, q2, q3, q4, b⟩ := o
        have ne : p ≠ a := fun z => h (c.sep i j ds us a h1 g h2 (z ▸ e1))
        exact ⟨p, zs, rfl, q1, q2, q3, by rw [upd_ne ne]; exact q4, b.mono kw⟩
  · have key : ∀ {j : Nat} {fs : List D}, (ρ.set i (.ow es))[j]? = some (.ow fs) → ∃ gs, ρ[j]? = some (.ow gs) := fun {j fs} e => by
      by_cases h : i = j
      · subst h; exact ⟨ds, h1⟩
      · rw [List.getElem?_set_ne h] at e; exact ⟨fs, e⟩
    obtain ⟨_, g1⟩ := key e1
    obtain ⟨_, g2⟩ := key e2
    exact c.sep j l _ _ p g1 g2 e3 e4
/-- an owned list is owned no more -/
theorem Cor.frz (c : Cor K M H0 av0 av H σ ρ) {i : Nat} {ds : List D} (h1 : ρ[i]? = some (.ow ds)) : ∃ av', (∀ a, av' a → av a) ∧ Cor K M H0 av0 av' H σ (ρ.set i (.va (.list ds))) := by
  obtain ⟨x, e3, a, xs, rfl, ha, na0, n0, hx, b⟩ := c.slot _ _ h1
  have hl : i < ρ.length := (List.getElem?_eq_some_iff.mp h1).1
  have wk : ∀ {p : Addr}, (av p ∧ p ≠ a) → av p ∨ H p = none := fun z => .inl z.1
  refine ⟨fun p => av p ∧ p ≠ a, fun p z => z.1, c.kp, fun p z => c.dom p z.1, fun p z => ⟨c.sub p z, fun q => na0 (q ▸ z)⟩, by rw [List.length_set]; exact c.len, fun j s g => ?_, fun j l es fs p e1 e2 e5 e6 => ?_, c.gl⟩
  · by_cases h : i = j
    · subst h
      rw [List.getElem?_set_self hl] at g
      cases g
      exact ⟨_, e3, _, rfl, .lst hx (fun z => z.2 rfl) (b.weak fun p z => wk z)⟩
    · rw [List.getElem?_set_ne h] at g
      obtain ⟨x, e1, o⟩ := c.slot j s g
      refine ⟨x, e1, ?_⟩
      cases s with
      | no => trivial
      | va d => obtain ⟨v, e, b⟩ := o; exact ⟨v, e, b.weak fun p z => wk z⟩
      | ow us =>
        obtain ⟨p, zs, rfl, q1, q2, q3, q4, b⟩ := o
        have ne : p ≠ a := fun z => h (c.sep i j ds us a h1 g e3 (z ▸ e1))
        exact ⟨p, zs, rfl, ⟨q1, ne⟩, q2, q3, q4, b.weak fun p z => wk z⟩
  · have key : ∀ {j : Nat} {fs : List D}, (ρ.set i (.va (.list ds)))[j]? = some (.ow fs) → ρ[j]? = some (.ow fs) := fun {j fs} e => by
      by_cases h : i = j
      · subst h; rw [List.getElem?_set_self hl] at e; cases e
      · rw [List.getElem?_set_ne h] at e; exact e
    exact c.sep j l _ _ p (key e1) (key e2) e5 e6
end
/-- the kept tables are no lists -/
def MemW (M : Mem) : Prop := ∀ H a xs ys k p, H a = some (.lst xs) → M H k p → M (upd H a (.lst ys)) k p

section
variable {X : Cx} {M : Mem} {a b e : Expr} {f h : EF} {F G' : SF} {pos : Pos} {st : Stmt} {rest : List Stmt}
theorem fss_nil : FSs X M [] cNext := PSs.imp pss_nil fun Dn σ H q => by
  obtain ⟨H0, av0, av, ρ, o, c, e, k⟩ := q
  cases e
  exact Aft.now k Kp.refl c
theorem fss_cons (h1 : FS X M st F) (h2 : FSs X M rest G') : FSs X M (st :: rest) (cSeq F G') := PSs.imp (pss_cons h1 h2) fun Dn σ H q => by
  obtain ⟨H0, av0, av, ρ, o, c, e, k⟩ := q
  obtain ⟨o1, e1, e⟩ := bind_some e
  refine ⟨H0, av0, av, ρ, o1, c, e1, ?_⟩
  cases o1 with
  | nx ρ' => exact fun av' σ' H' k1 s1 c1 => ⟨H0, av0, av', ρ', o, c1, e, OutOk.step k1 s1 k⟩
  | rt d => cases e; exact k
  | bk ρ' => cases e; exact k
  | ct ρ' => cases e; exact k
theorem fss_one (h1 : FS X M st F) : FSs X M [st] F := pss_one h1
theorem fss_frz (i : Nat) {ss : List Stmt} (h : FSs X M ss F) : FSs X M ss (cSeq (cFrz i) F) := PSs.imp h fun Dn σ H q => by
  obtain ⟨H0, av0, av, ρ, o, c, e, k⟩ := q
  obtain ⟨o1, e1, e⟩ := bind_some e
  unfold cFrz at e1
  split at e1
  · rename_i ds h1
    cases e1
    obtain ⟨av', s, c'⟩ := c.frz h1
    exact ⟨H0, av0, av', _, o, c', e, OutOk.step Kp.refl (fun a z => .inl (s a z)) k⟩
  · cases e1
theorem fs_pass : FS X M (.Pass pos) cNext := PS.imp ps_pass fun Dn σ H q => by
  obtain ⟨H0, av0, av, ρ, o, c, e, k⟩ := q
  cases e
  exact Aft.now k Kp.refl c
theorem fs_break : FS X M (.Break pos) cBrk := PS.imp ps_break fun Dn σ H q => by
  obtain ⟨H0, av0, av, ρ, o, c, e, k⟩ := q
  cases e
  exact Aft.now k Kp.refl c
theorem fs_continue : FS X M (.Continue pos) cCnt := PS.imp ps_continue fun Dn σ H q => by
  obtain ⟨H0, av0, av, ρ, o, c, e, k⟩ := q
  cases e
  exact Aft.now k Kp.refl c
theorem fs_never : FS X M st cNever := PS.imp ps_never fun Dn σ H q => by
  obtain ⟨H0, av0, av, ρ, o, c, e, k⟩ := q
  cases e
theorem fs_ret (he : FE X M e f) : FS X M (.Return (some e) pos) (cRet f) := PS.imp (ps_ret he) fun Dn σ H q => by
  obtain ⟨H0, av0, av, ρ, o, c, e, k⟩ := q
  obtain ⟨d, e1, e⟩ := bind_some e
  cases e
  exact ⟨H0, av0, av, ρ, d, c, e1, fun v H1 k1 b1 => k v H1 (c.kp.trans k1) (b1.weak fun a z => .inl (c.sub a z))⟩
theorem fs_if {c : Expr} {t : BF} {as bs : List Stmt} (hc : FT X M c t) (ha : FSs X M as F) (hb : FSs X M bs G') : FS X M (.If c as bs pos) (cIfS t F G') := PS.imp (ps_if hc ha hb) fun Dn σ H q => by
  obtain ⟨H0, av0, av, ρ, o, c, e, k⟩ := q
  obtain ⟨x, e1, e⟩ := bind_some e
  refine ⟨H0, av0, av, ρ, x, c, e1, fun H1 k1 => ?_⟩
  cases x with
  | true => exact ⟨H0, av0, av, ρ, o, c.mono k1, e, OutOk.step k1.of sub_refl k⟩
  | false => exact ⟨H0, av0, av, ρ, o, c.mono k1, e, OutOk.step k1.of sub_refl k⟩
theorem fs_expr (he : FE X M e f) (hs : swapsWith e none pos.line X.env = pure false := by rfl) : FS X M (.Expr e pos) (cDrop f) := PS.imp (ps_expr he hs) fun Dn σ H q => by
  obtain ⟨H0, av0, av, ρ, o, c, e, k⟩ := q
  obtain ⟨d, e1, e⟩ := bind_some e
  cases e
  exact ⟨H0, av0, av, ρ, d, c, e1, fun v H1 k1 b1 => Aft.now k k1 (c.mono k1)⟩
/-- target = value -/
theorem asg_of {t : Stmt} {g : GF} {vs : List Nat} (h : PS X t (tAsg (tE X.K M f) (tG X.K M g vs))) : FS X M t (cAsg f g) := PS.imp h fun Dn σ H q => by
  obtain ⟨H0, av0, av, ρ, o, c, e, k⟩ := q
  obtain ⟨d, e1, e⟩ := bind_some e
  obtain ⟨ρ', e2, e⟩ := bind_some e
  cases e
  exact ⟨H0, av0, av, ρ, d, c, e1, fun v H1 k1 b1 => ⟨H0, av0, av, ρ, d, ρ', c.mono k1, b1, e2, fun σ' _ c' => Aft.now k k1 c'⟩⟩
theorem fs_asg {tg : Expr} {g : GF} {vs : List Nat} (he : FE X M e f) (hg : FG X M tg g vs) (hs : swapsWithSole [tg] e pos.line X.env = pure false := by rfl) (hw : swappedStores [tg] e X.env = pure none := by rfl)
    (h1 : (assignEach [tg] X.env).map (·.2) = [assign tg X.env] := by rfl) : FS X M (.Assign [tg] e pos) (cAsg f g) := asg_of (ps_asg he hg hs hw h1)
theorem fs_set {i : Nat} {tg : Stmt} (h : PS X tg (tAsg (tE X.K M f) (gName i))) : FS X M tg (cAsg f (gV i)) := asg_of (vs := [i]) (PS.imp h fun Dn σ H q => by
  obtain ⟨H0, av0, av, ρ, d, c, e1, k⟩ := q
  exact ⟨H0, av0, av, ρ, d, c, e1, fun v H1 k1 b1 => by
    obtain ⟨H0, av0, av, ρ, d, ρ', c, b, e1, k⟩ := k v H1 k1 b1
    cases e1
    exact k _ (wipe_set σ (by simp)) (c.setVa b)⟩)
theorem own_of {i : Nat} {tg : Stmt} {r : LF} (h : PS X tg (tAsg (tN X.K M r) (gName i))) : FS X M tg (cOwn i r) := PS.imp h fun Dn σ H q => by
  obtain ⟨H0, av0, av, ρ, o, c, e, k⟩ := q
  obtain ⟨ds, e1, e⟩ := bind_some e
  cases e
  exact ⟨H0, av0, av, ρ, ds, c, e1, fun a xs H1 k1 n1 h1 b1 => k _ _ H1 k1.of (andA_new n1) (c.setOw k1 n1 h1 b1)⟩
/-- owned.append(e) -/
theorem fs_app {i : Nat} {te : TE} {t : Stmt} (hM : MemOk M) (hW : MemW M) (h : PS X t (tDrop (tBM X.K "list" rAppend (tVar i) (tA X.K M (cCons f cNil))))) : FS X M t (cApp i f) := PS.imp h fun Dn σ H q => by
  obtain ⟨H0, av0, av, ρ, o, c, e, k⟩ := q
  unfold cApp at e
  split at e
  · rename_i ds h1
    obtain ⟨d, e1, e⟩ := bind_some e
    split at e
    · rename_i hl
      cases e
      obtain ⟨x, e3, a, xs, rfl, ha, na0, n0, hx, b⟩ := c.slot _ _ h1
      refine ⟨.ref a, e3, .inl ⟨rfl, xs, SqL.of hx⟩, H0, av0, av, ρ, [d], c, ?_, fun vs H1 k1 b1 => ?_⟩
      · unfold cCons cNil; rw [e1]; rfl
      · cases b1 with
        | cons b1 r1 =>
          cases r1
          have hx1 := k1.lst _ _ (fun z => z) hx
          refine ⟨a, xs, _, rfl, rfl, hx1, ?_, ?_⟩
          · rw [b.length, sizeLine_eq]; exact hl
          · obtain ⟨kw, c2⟩ := (c.mono k1).write hM (fun k p z => hW _ _ _ _ k p hx1 z) h1 e3 hx1 ((b.mono k1.of).append (.cons b1 .nil))
            exact k av σ _ (k1.of.trans kw) sub_refl c2
    · cases e
  · cases e
/-- owned.extend(e) -/
theorem fs_ext {i : Nat} {te : TE} {t : Stmt} (hM : MemOk M) (hW : MemW M) (h : PS X t (tDrop (tBM X.K "list" rExtend (tVar i) (tA X.K M (cCons f cNil))))) : FS X M t (cExt i f) := PS.imp h fun Dn σ H q => by
  obtain ⟨H0, av0, av, ρ, o, c, e, k⟩ := q
  unfold cExt at e
  split at e
  · rename_i ds h1
    obtain ⟨d, e1, e⟩ := bind_some e
    split at e
    · split at e
      · rename_i es hl
        cases e
        obtain ⟨x, e3, a, xs, rfl, ha, na0, n0, hx, b⟩ := c.slot _ _ h1
        refine ⟨.ref a, e3, .inl ⟨rfl, xs, SqL.of hx⟩, H0, av0, av, ρ, [.list es], c, ?_, fun vs H1 k1 b1 => ?_⟩
        · unfold cCons cNil; rw [e1]; rfl
        · cases b1 with
          | cons b1 r1 =>
            cases r1
            cases b1 with
            | lst hz nz rz =>
              have hx1 := k1.lst _ _ (fun z => z) hx
              refine ⟨a, _, xs, _, rfl, rfl, hx1, hz, ?_, ?_⟩
              · rw [b.length, rz.length]; exact lim_ok hl
              · obtain ⟨kw, c2⟩ := (c.mono k1).write hM (fun k p z => hW _ _ _ _ k p hx1 z) h1 e3 hx1 ((b.mono k1.of).append rz)
                exact k av σ _ (k1.of.trans kw) sub_refl c2
      · cases e
    · cases e
  · cases e
/-- owned[k] = e -/
theorem fs_put {i : Nat} {t : Stmt} (hM : MemOk M) (hW : MemW M) (hp : PS X t (tAsg (tE X.K M f) (gSub (tVar i) (tE X.K M h) rSetL))) : FS X M t (cPut i f h) := PS.imp hp fun Dn σ H q => by
  obtain ⟨H0, av0, av, ρ, o, c, e, k⟩ := q
  obtain ⟨d, e1, e⟩ := bind_some e
  split at e
  · rename_i ds h1
    obtain ⟨y, e2, e⟩ := bind_some e
    split at e
    · obtain ⟨j, e4, e⟩ := bind_some e
      cases e
      refine ⟨H0, av0, av, ρ, d, c, e1, fun v H1 k1 b1 => ?_⟩
      obtain ⟨x, e3, a, xs, rfl, ha, na0, n0, hx, b⟩ := c.slot _ _ h1
      refine ⟨.ref a, e3, H0, av0, av, ρ, _, c.mono k1, e2, fun w H2 k2 b2 => ?_⟩
      cases b2
      have hx2 := (k1.trans k2).lst _ _ (fun z => z) hx
      refine ⟨a, xs, _, j, rfl, rfl, hx2, by rw [b.length]; exact e4, ?_⟩
      obtain ⟨kw, c2⟩ := (c.mono (k1.trans k2)).write hM (fun k p z => hW _ _ _ _ k p hx2 z) h1 e3 hx2 ((b.mono (k1.trans k2).of).set (b1.mono k2.of) j)
      exact k av σ _ ((k1.trans k2).of.trans kw) sub_refl c2
    · cases e
  · cases e
end
end G

namespace G
open PySem PySem.Spec PyProof.Rows L2

/-! ## what is walked -/
section
variable (K : PySem.W.Frag) (M : Mem)
/-- J yields ds, at any later state that has not touched what stands at H' outside av -/
def Wk (av : Av) (J : It) (H' : Hp) (ds : List D) : Prop := ∀ (i : Nat) (av' : Av) (H2 : Hp), (∀ a, av' a → av a ∨ H' a = none) → (∀ a, av' a → H2 a ≠ none) → Kp M av H' H2 →
  (∀ d, ds[i]? = some d → J.go i H2 ∧ ∀ x H3, J.yld i H2 x H3 → Kp M noA H2 H3 ∧ Br K M av' H3 x d) ∧ (ds[i]? = none → J.stop i H2)
def tI (f : LF) : TI := fun σ H R => ∃ H0 av0 av ρ ds, Cor K M H0 av0 av H σ ρ ∧ f ρ = some ds ∧ ∀ J H', Kp M noA H H' → Wk K M av J H' ds → R J H'
end
section
variable (K : PySem.W.Frag) (M : Mem)
/-- the same, where nothing at all is written in the meantime -/
def Wk0 (av : Av) (J : It) (H' : Hp) (ds : List D) : Prop := ∀ (i : Nat) (av' : Av) (H2 : Hp), (∀ a, av' a → av a ∨ H' a = none) → (∀ a, av' a → H2 a ≠ none) → Kp M noA H' H2 →
  (∀ d, ds[i]? = some d → J.go i H2 ∧ ∀ x H3, J.yld i H2 x H3 → Kp M noA H2 H3 ∧ Br K M av' H3 x d) ∧ (ds[i]? = none → J.stop i H2)
def tI0 (f : LF) : TI := fun σ H R => ∃ H0 av0 av ρ ds, Cor K M H0 av0 av H σ ρ ∧ f ρ = some ds ∧ ∀ J H', Kp M noA H H' → Wk0 K M av J H' ds → R J H'
end
abbrev FI0 (X : Cx) (M : Mem) (tg e : Expr) (f : LF) : Prop := PI X tg e (tI0 X.K M f)
abbrev FI (X : Cx) (M : Mem) (tg e : Expr) (f : LF) : Prop := PI X tg e (tI X.K M f)
theorem PI.imp {X : Cx} {tg e : Expr} {t t' : TI} (h : PI X tg e t) (i : ∀ σ H Q, t' σ H Q → t σ H Q) : PI X tg e t' := ⟨fun pins s σ H R I q => h.run pins s σ H R I (i _ _ _ q)⟩
section
variable {K : PySem.W.Frag} {M : Mem} {av av' : Av} {H H' H2 : Hp}
/-- a datum outside av, at a later state, outside av' too -/
theorem Br.later {v : V} {d : D} (b : Br K M av H' v d) (s : ∀ a, av' a → av a ∨ H' a = none) (k : Kp M av H' H2) : Br K M av' H2 v d := by
  have b1 : Br K M (fun a => av a ∨ av' a) H' v d := b.weak fun a z => z.elim .inl (s a)
  exact (b1.mono (k.weak fun a z => .inl z)).weak fun a z => .inl (.inr z)
theorem BrL.later {v : List V} {d : List D} (b : BrL K M av H' v d) (s : ∀ a, av' a → av a ∨ H' a = none) (k : Kp M av H' H2) : BrL K M av' H2 v d := by
  have b1 : BrL K M (fun a => av a ∨ av' a) H' v d := b.weak fun a z => z.elim .inl (s a)
  exact (b1.mono (k.weak fun a z => .inl z)).weak fun a z => .inl (.inr z)
theorem BrL.none_of {vs : List V} {ds : List D} {i : Nat} (b : BrL K M av H vs ds) (e : ds[i]? = none) : vs.length ≤ i := by
  rw [b.length]; exact List.getElem?_eq_none_iff.mp e
end
def itD : D → Option (List D)
  | .list ds => some ds
  | .tuple ds => some ds
  | _ => none
def cIt (f : EF) : LF := fun ρ => (f ρ).bind fun d => match d with
  | .list ds => some ds
  | _ => none
def cItT (f : EF) : LF := fun ρ => (f ρ).bind fun d => match d with
  | .tuple ds => some ds
  | _ => none
def scrL : List (D × D) → Option (List D)
  | [] => some []
  | (.int n, .none) :: r => (scrL r).bind fun ds => some (.int n :: ds)
  | _ => none
theorem scrL_of : ∀ ns : List Int, scrL (ns.map fun n => (PyData.int n, PyData.none)) = some (ns.map PyData.int)
  | [] => rfl
  | n :: r => by
    show (scrL (r.map fun n => (PyData.int n, PyData.none))).bind _ = _
    rw [scrL_of r]; rfl
section
variable {X : Cx} {M : Mem} {tg e e2 : Expr} {f h : EF} {pos : Pos}
theorem wk_list {K : PySem.W.Frag} {av : Av} {a : Addr} {xs : List V} {ds : List D} {H' : Hp} (hx : H' a = some (.lst xs)) (n : ¬ av a) (b : BrL K M av H' xs ds) : Wk K M av (Itl K a) H' ds := by
  intro i av' H2 s hd k
  have h2 : H2 a = some (.lst xs) := k.lst a xs n hx
  refine ⟨fun d e => ?_, fun e => ⟨xs, SqL.of h2, b.none_of e⟩⟩
  obtain ⟨v, e1, bv⟩ := b.get e
  refine ⟨⟨xs, v, SqL.of h2, e1⟩, fun x H3 y => ?_⟩
  obtain ⟨rfl, y⟩ := y
  have e2 := y xs (SqL.of h2)
  rw [e1] at e2
  cases e2
  exact ⟨Kp.refl, bv.later s k⟩
theorem wk_tup {K : PySem.W.Frag} {av : Av} {a : Addr} {xs : List V} {ds : List D} {H' : Hp} (hx : H' a = some (.tup xs)) (b : BrL K M av H' xs ds) : Wk K M av (Itt K a) H' ds := by
  intro i av' H2 s hd k
  have h2 : H2 a = some (.tup xs) := k.tup a xs hx
  refine ⟨fun d e => ?_, fun e => ⟨xs, SqT.of h2, b.none_of e⟩⟩
  obtain ⟨v, e1, bv⟩ := b.get e
  refine ⟨⟨xs, v, SqT.of h2, e1⟩, fun x H3 y => ?_⟩
  obtain ⟨rfl, y⟩ := y
  have e2 := y xs (SqT.of h2)
  rw [e1] at e2
  cases e2
  exact ⟨Kp.refl, bv.later s k⟩
theorem FI.zero {f : LF} (h : FI X M tg e f) : FI0 X M tg e f := PI.imp h fun σ H R q => by
  obtain ⟨H0, av0, av, ρ, ds, c, e, k⟩ := q
  exact ⟨H0, av0, av, ρ, ds, c, e, fun J H' k1 wk => k J H' k1 fun i av' H2 s hd k2 => wk i av' H2 s hd k2.of⟩
theorem Br.later0 {K : PySem.W.Frag} {av av' : Av} {H' H2 : Hp} {v : V} {d : D} (b : Br K M av H' v d) (s : ∀ a, av' a → av a ∨ H' a = none) (k : Kp M noA H' H2) : Br K M av' H2 v d := b.later s k.of
theorem wk0_list {K : PySem.W.Frag} {av : Av} {a : Addr} {xs : List V} {ds : List D} {H' : Hp} (hx : H' a = some (.lst xs)) (b : BrL K M av H' xs ds) : Wk0 K M av (Itl K a) H' ds := by
  intro i av' H2 s hd k
  have h2 : H2 a = some (.lst xs) := k.lst a xs (fun z => z) hx
  refine ⟨fun d e => ?_, fun e => ⟨xs, SqL.of h2, b.none_of e⟩⟩
  obtain ⟨v, e1, bv⟩ := b.get e
  refine ⟨⟨xs, v, SqL.of h2, e1⟩, fun x H3 y => ?_⟩
  obtain ⟨rfl, y⟩ := y
  have e2 := y xs (SqL.of h2)
  rw [e1] at e2
  cases e2
  exact ⟨Kp.refl, bv.later s k.of⟩
theorem fi0_list (he : FK X M e f) : FI0 X M tg e (cIt f) := PI.imp (pi_list he) fun σ H R q => by
  obtain ⟨H0, av0, av, ρ, ds, c, e, k⟩ := q
  obtain ⟨d, e1, e⟩ := bind_some e
  split at e
  · cases e
    refine ⟨H0, av0, av, ρ, _, c, e1, fun v H1 k1 b1 => ?_⟩
    obtain ⟨a, xs, rfl, hx, b⟩ := b1.list
    exact ⟨_, rfl, ⟨_, SqL.of hx⟩, k _ _ k1 (wk0_list hx b)⟩
  · cases e
theorem fi_list (he : FE X M e f) : FI X M tg e (cIt f) := PI.imp (pi_list he) fun σ H R q => by
  obtain ⟨H0, av0, av, ρ, ds, c, e, k⟩ := q
  obtain ⟨d, e1, e⟩ := bind_some e
  split at e
  · cases e
    refine ⟨H0, av0, av, ρ, _, c, e1, fun v H1 k1 b1 => ?_⟩
    cases b1 with
    | lst hx n b => exact ⟨_, rfl, ⟨_, SqL.of hx⟩, k _ _ k1 (wk_list hx n b)⟩
  · cases e
theorem fi_tup (he : FE X M e f) : FI X M tg e (cItT f) := PI.imp (pi_tup he) fun σ H R q => by
  obtain ⟨H0, av0, av, ρ, ds, c, e, k⟩ := q
  obtain ⟨d, e1, e⟩ := bind_some e
  split at e
  · cases e
    refine ⟨H0, av0, av, ρ, _, c, e1, fun v H1 k1 b1 => ?_⟩
    cases b1 with
    | tup hx b => exact ⟨_, rfl, ⟨_, SqT.of hx⟩, k _ _ k1 (wk_tup hx b)⟩
  · cases e
/-! ### ranges -/
def rgL (lo : Int) (n : Nat) : List D := (List.range n).map fun i => .int (lo + (i : Nat))
theorem wk_range {K : PySem.W.Frag} {av : Av} {H' : Hp} (lo : Int) (n : Nat) : Wk K M av (Itr lo n) H' (rgL lo n) := by
  intro i av' H2 s hd k
  refine ⟨fun d e => ?_, fun e => ?_⟩
  · have hi : i < n := by
      have := (List.getElem?_eq_some_iff.mp e).1
      simpa [rgL] using this
    refine ⟨hi, fun x H3 y => ?_⟩
    obtain ⟨rfl, rfl⟩ := y
    have e' : d = .int (lo + (i : Nat)) := by
      unfold rgL at e
      rw [List.getElem?_map, List.getElem?_range hi] at e
      exact (Option.some.inj e).symm
    rw [e']
    exact ⟨Kp.refl, .int _⟩
  · have := List.getElem?_eq_none_iff.mp e
    show n ≤ i
    simpa [rgL] using this
def cRg1 (f : EF) : LF := fun ρ => (f ρ).bind fun d => match d with
  | .int n => if -(2 ^ 62) ≤ n ∧ n < 2 ^ 62 then some (rgL 0 n.toNat) else none
  | _ => none
def cRg2 (f h : EF) : LF := fun ρ => (f ρ).bind fun d => (h ρ).bind fun e => match d, e with
  | .int m, .int n => if -(2 ^ 62) ≤ m ∧ m < 2 ^ 62 ∧ -(2 ^ 62) ≤ n ∧ n < 2 ^ 62 then some (rgL m (n - m).toNat) else none
  | _, _ => none
theorem fi_range1 {p : Pos} (hg : Gl X "range") (hm : X.mg "range" = none) (ha : FE X M e f) (hs : starEach [e] X.env = [(false, eval e X.env)] := by rfl) : FI X M tg (.Call (.Name "range" p) [e] [] pos) (cRg1 f) :=
  PI.imp (pi_range1 hg hm (fa_cons ha fa_nil (hs.trans rfl)) hs) fun σ H R q => by
    obtain ⟨H0, av0, av, ρ, ds, c, e, k⟩ := q
    obtain ⟨d, e1, e⟩ := bind_some e
    split at e
    · rename_i n
      split at e
      · rename_i hb
        cases e
        refine ⟨H0, av0, av, ρ, [.int n], c, ?_, fun vs H1 k1 b1 => ?_⟩
        · unfold cCons cNil; rw [e1]; rfl
        · cases b1 with
          | cons b r =>
            cases r
            cases b
            exact ⟨_, rfl, hb.1, hb.2, k _ _ k1 (wk_range 0 _)⟩
      · cases e
    · cases e
theorem fi_range2 {p : Pos} (hg : Gl X "range") (hm : X.mg "range" = none) (ha : FE X M e f) (hb : FE X M e2 h) (hs : starEach [e, e2] X.env = [(false, eval e X.env), (false, eval e2 X.env)] := by rfl) (hs2 : starEach [e2] X.env = [(false, eval e2 X.env)] := by rfl) :
    FI X M tg (.Call (.Name "range" p) [e, e2] [] pos) (cRg2 f h) :=
  PI.imp (pi_range2 hg hm (fa_cons ha (fa_cons hb fa_nil (hs2.trans rfl)) (hs.trans (by rw [hs2]))) hs hs2) fun σ H R q => by
    obtain ⟨H0, av0, av, ρ, ds, c, e, k⟩ := q
    obtain ⟨d, e1, e⟩ := bind_some e
    obtain ⟨d2, e2, e⟩ := bind_some e
    split at e
    · rename_i m n _
      split at e
      · rename_i hb
        cases e
        refine ⟨H0, av0, av, ρ, [.int m, .int n], c, ?_, fun vs H1 k1 b1 => ?_⟩
        · unfold cCons cNil; rw [e1, e2]; rfl
        · cases b1 with
          | cons b r =>
            cases r with
            | cons b' r =>
              cases r
              cases b
              cases b'
              exact ⟨_, _, rfl, hb, k _ _ k1 (wk_range _ _)⟩
      · cases e
    · cases e
/-- range(a, b, -1) -/
theorem wk_rangeD {K : PySem.W.Frag} {av : Av} {H' : Hp} : True := trivial
/-! ### enumerate, zip -/
def enL (n : Nat) : List D → List D
  | [] => []
  | d :: ds => .tuple [.int (n : Nat), d] :: enL (n + 1) ds
theorem enL_get : ∀ (ds : List D) (n i : Nat), (enL n ds)[i]? = (ds[i]?).map fun d => .tuple [.int ((n + i : Nat) : Int), d]
  | [], n, i => by simp [enL]
  | d :: ds, n, 0 => by simp [enL]
  | d :: ds, n, i + 1 => by
    show (enL (n + 1) ds)[i]? = _
    rw [enL_get ds (n + 1) i]
    have : n + 1 + i = n + (i + 1) := by omega
    simp [this]
def cEn (f : EF) : LF := fun ρ => (f ρ).bind fun d => match d with
  | .list ds => some (enL 0 ds)
  | _ => none
theorem fi_enum {p tpos : Pos} {elts : List Expr} {kk : Nat} (hM : MemOk M) (hg : Gl X "enumerate") (hm : X.mg "enumerate" = none) (ha : FE X M e f) (hs : starEach [e] X.env = [(false, eval e X.env)] := by rfl) :
    FI X M (.Tuple elts kk tpos) (.Call (.Name "enumerate" p) [e] [] pos) (cEn f) :=
  PI.imp (pi_enum hg hm (fa_cons ha fa_nil (hs.trans rfl)) hs) fun σ H R q => by
    obtain ⟨H0, av0, av, ρ, ds, c, e, k⟩ := q
    obtain ⟨d, e1, e⟩ := bind_some e
    split at e
    · rename_i es
      cases e
      refine ⟨H0, av0, av, ρ, [.list es], c, ?_, fun vs H1 k1 b1 => ?_⟩
      · unfold cCons cNil; rw [e1]; rfl
      · cases b1 with
        | cons b r =>
          cases r
          cases b with
          | lst hx n b =>
            rename_i a xs
            refine ⟨_, _, rfl, SqL.of hx, k _ _ k1 ?_⟩
            intro i av' H2 s hd kk
            have h2 : H2 a = some (.lst xs) := kk.lst a xs n hx
            refine ⟨fun d g => ?_, fun g => ?_⟩
            · rw [enL_get] at g
              cases g1 : es[i]? with
              | none => rw [g1] at g; cases g
              | some d1 =>
                rw [g1] at g
                cases g
                obtain ⟨v, e1, bv⟩ := b.get g1
                refine ⟨⟨xs, v, SqL.of h2, e1⟩, fun x H3 y => ?_⟩
                obtain ⟨T, x1, rfl, nT, rfl, fx⟩ := y
                have e2 := fx xs (SqL.of h2)
                rw [e1] at e2
                cases e2
                have kn := Kp.new (o := HO.tup [.int (i : Nat), v]) hM nT
                refine ⟨kn, .tup upd_same (.cons ?_ (.cons ((bv.later s kk).mono kn.of) .nil))⟩
                rw [Nat.zero_add]
                exact .int _
            · rw [enL_get] at g
              cases g1 : es[i]? with
              | none => exact ⟨xs, SqL.of h2, b.none_of g1⟩
              | some d1 => rw [g1] at g; cases g
    · cases e
def zipL : List D → List D → List D
  | x :: xs, y :: ys => .tuple [x, y] :: zipL xs ys
  | _, _ => []
theorem zipL_get : ∀ (xs ys : List D) (i : Nat), (zipL xs ys)[i]? = match xs[i]?, ys[i]? with
    | some x, some y => some (.tuple [x, y])
    | _, _ => none
  | [], ys, i => by simp [zipL]
  | x :: xs, [], i => by
    simp only [zipL, List.getElem?_nil]
    split <;> simp_all
  | x :: xs, y :: ys, 0 => by simp [zipL]
  | x :: xs, y :: ys, i + 1 => by
    show (zipL xs ys)[i]? = _
    rw [zipL_get xs ys i]
    simp
end

/-! ## for -/
def forL (g : GF) (B : SF) : List D → SF
  | [] => fun ρ => some (.nx ρ)
  | d :: ds => fun ρ => (g d ρ).bind fun ρ1 => (B ρ1).bind fun o => match o with
    | .nx ρ' => forL g B ds ρ'
    | .ct ρ' => forL g B ds ρ'
    | .bk ρ' => some (.nx ρ')
    | .rt d => some (.rt d)
def cFor (it : LF) (g : GF) (B : SF) : SF := fun ρ => (it ρ).bind fun ds => forL g B ds ρ
section
variable {X : Cx} {M : Mem} {tg e iter : Expr} {f h : EF} {pos : Pos} {body : List Stmt}
theorem fs_for {it : LF} {g : GF} {vs : List Nat} {B : SF} (hp : PassesOwn (model X.prog X.w) X.A X.env X.xe) (hc : X.calm = true) (hi : FI X M tg iter it) (hg : FG X M tg g vs) (hb : FSs X M body B)
    (hs : ∀ x, foldedSetIterable iter X.env x = pure x := by intro _; rfl) : FS X M (.For tg iter body [] pos) (cFor it g B) := PS.imp (ps_for hp hc hi hg hb hs) fun Dn σ H q => by
  obtain ⟨H0, av0, av, ρ, o, c, e, post⟩ := q
  obtain ⟨ds, e1, e⟩ := bind_some e
  refine ⟨H0, av0, av, ρ, ds, c, e1, fun J H1 k1 wk => ?_⟩
  refine ⟨fun i m σ' H' => m = ds.length - i ∧ i ≤ ds.length ∧ ∃ av' ρ', Kp M av H1 H' ∧ (∀ a, av' a → av a ∨ H1 a = none) ∧ Cor X.K M H0 av0 av' H' σ' ρ' ∧ forL g B (ds.drop i) ρ' = some o, ⟨ds.length, by simp, Nat.zero_le _, av, ρ, Kp.refl, sub_refl, c.mono k1, by simpa using e⟩, ?_⟩
  rintro i m σ' H' ⟨rfl, hi, av', ρ', k2, s2, c2, e2⟩
  have w := wk i av' H' s2 c2.dom k2
  have post1 : OutOk X.K M H0 av0 av H1 Dn o := OutOk.step k1.of sub_refl post
  have post2 : OutOk X.K M H0 av0 av' H' Dn o := OutOk.step k2 s2 post1
  cases g1 : ds[i]? with
  | none =>
    refine .inl ⟨w.2 g1, ?_⟩
    have : ds.drop i = [] := List.drop_eq_nil_of_le (List.getElem?_eq_none_iff.mp g1)
    rw [this] at e2
    cases e2
    exact Aft.now post2 Kp.refl c2
  | some d =>
    obtain ⟨hlt, hd⟩ := List.getElem?_eq_some_iff.mp g1
    have hdr : ds.drop i = d :: ds.drop (i + 1) := by rw [List.drop_eq_getElem_cons hlt, hd]
    rw [hdr] at e2
    obtain ⟨ρ1, e3, e2⟩ := bind_some e2
    obtain ⟨o1, e4, e2⟩ := bind_some e2
    refine .inr ⟨(w.1 d g1).1, fun σ'' H'' => ∃ m', m' < ds.length - i ∧ m' = ds.length - (i + 1) ∧ i + 1 ≤ ds.length ∧ ∃ av' ρ', Kp M av H1 H'' ∧ (∀ a, av' a → av a ∨ H1 a = none) ∧ Cor X.K M H0 av0 av' H'' σ'' ρ' ∧ forL g B (ds.drop (i + 1)) ρ' = some o, fun σ'' H'' ⟨m', h1, h2⟩ => ⟨m', h1, h2⟩, fun x H3 y => ?_⟩
    obtain ⟨k3, b3⟩ := (w.1 d g1).2 x H3 y
    refine ⟨H0, av0, av', ρ', d, ρ1, c2.mono k3, b3, e3, fun σ4 _ c4 => ?_⟩
    refine ⟨H0, av0, av', ρ1, o1, c4, e4, ?_⟩
    have again : ∀ ρ2 : Ev, forL g B (ds.drop (i + 1)) ρ2 = some o → Aft X.K M H0 av0 av' H3 ρ2 (fun σ'' H'' => ∃ m', m' < ds.length - i ∧ m' = ds.length - (i + 1) ∧ i + 1 ≤ ds.length ∧ ∃ av' ρ', Kp M av H1 H'' ∧ (∀ a, av' a → av a ∨ H1 a = none) ∧ Cor X.K M H0 av0 av' H'' σ'' ρ' ∧ forL g B (ds.drop (i + 1)) ρ' = some o) :=
      fun ρ2 e5 av5 σ5 H5 k5 s5 c5 => ⟨_, by omega, rfl, hlt, av5, ρ2, (k2.trans k3.of).step (fun a z => s2 a z) k5, sub_step (k2.trans k3.of) s2 s5, c5, e5⟩
    cases o1 with
    | nx ρ2 => exact again ρ2 e2
    | ct ρ2 => exact again ρ2 e2
    | bk ρ2 =>
      cases e2
      exact Aft.step k3.of sub_refl post2
    | rt d2 => cases e2; exact post2
end

/-! ## while -/
def whileN (t : BF) (B : SF) : Nat → SF
  | 0 => fun _ => none
  | n + 1 => fun ρ => (t ρ).bind fun b => if b = true then (B ρ).bind fun o => match o with
    | .nx ρ' => whileN t B n ρ'
    | .ct ρ' => whileN t B n ρ'
    | .bk ρ' => some (.nx ρ')
    | .rt d => some (.rt d)
    else some (.nx ρ)
section
variable {X : Cx} {M : Mem} {e : Expr} {pos : Pos} {body : List Stmt}
theorem fs_while (n : Nat) {t : BF} {B : SF} (hp : PassesOwn (model X.prog X.w) X.A X.env X.xe) (hc : FT X M e t) (hb : FSs X M body B) : FS X M (.While e body [] pos) (whileN t B n) := PS.imp (ps_while hp hc hb) fun Dn σ H q => by
  obtain ⟨H0, av0, av, ρ, o, c, e, post⟩ := q
  refine ⟨fun m σ' H' => ∃ av' ρ', Kp M av H H' ∧ (∀ a, av' a → av a ∨ H a = none) ∧ Cor X.K M H0 av0 av' H' σ' ρ' ∧ whileN t B m ρ' = some o, ⟨n, av, ρ, Kp.refl, sub_refl, c, e⟩, ?_⟩
  rintro m σ' H' ⟨av', ρ', k2, s2, c2, e2⟩
  have post2 : OutOk X.K M H0 av0 av' H' Dn o := OutOk.step k2 s2 post
  cases m with
  | zero => cases e2
  | succ m =>
    obtain ⟨b, e3, e2⟩ := bind_some e2
    refine ⟨H0, av0, av', ρ', b, c2, e3, fun H3 k3 => ?_⟩
    cases b with
    | false =>
      cases e2
      exact Aft.now post2 k3 (c2.mono k3)
    | true =>
      rw [if_pos rfl] at e2 ⊢
      obtain ⟨o1, e4, e2⟩ := bind_some e2
      refine ⟨fun σ'' H'' => ∃ av' ρ', Kp M av H H'' ∧ (∀ a, av' a → av a ∨ H a = none) ∧ Cor X.K M H0 av0 av' H'' σ'' ρ' ∧ whileN t B m ρ' = some o, fun σ'' H'' h => ⟨m, Nat.lt_succ_self m, h⟩, ?_⟩
      refine ⟨H0, av0, av', ρ', o1, c2.mono k3, e4, ?_⟩
      have again : ∀ ρ2 : Ev, whileN t B m ρ2 = some o → Aft X.K M H0 av0 av' H3 ρ2 (fun σ'' H'' => ∃ av' ρ', Kp M av H H'' ∧ (∀ a, av' a → av a ∨ H a = none) ∧ Cor X.K M H0 av0 av' H'' σ'' ρ' ∧ whileN t B m ρ' = some o) :=
        fun ρ2 e5 av5 σ5 H5 k5 s5 c5 => ⟨av5, ρ2, (k2.trans k3.of).step (fun a z => s2 a z) k5, sub_step (k2.trans k3.of) s2 s5, c5, e5⟩
      cases o1 with
      | nx ρ2 => exact again ρ2 e2
      | ct ρ2 => exact again ρ2 e2
      | bk ρ2 => cases e2; exact Aft.step k3.of sub_refl post2
      | rt d2 => cases e2; exact post2
end

/-! ## comprehensions -/
def lcL (ρ : Ev) (g : GF) (t : BF) (f : EF) : List D → Option (List D)
  | [] => some []
  | d :: ds => (g d ρ).bind fun ρ1 => (t ρ1).bind fun b => if b = true then (f ρ1).bind fun y => (lcL ρ g t f ds).bind fun ys => some (y :: ys) else lcL ρ g t f ds
def cLc (it : LF) (vs : List Nat) (g : GF) (t : BF) (f : EF) : LF := fun ρ => (it ρ).bind fun ds => if ds.length ≤ lim then lcL (wipeE ρ vs) g t f ds else none
def cYes : BF := fun _ => some true
abbrev FTs (X : Cx) (M : Mem) (es : List Expr) (t : BF) : Prop := PTs X es (tT X.K M t)
section
variable {X : Cx} {M : Mem} {tg e iter elt : Expr} {pos : Pos} {ifs : List Expr}
theorem PTs.imp {X : Cx} {e : List Expr} {t t' : TT} (h : PTs X e t) (i : ∀ σ H Q, t' σ H Q → t σ H Q) : PTs X e t' := ⟨fun pins s σ H Q I q => h.run pins s σ H Q I (i _ _ _ q)⟩
theorem fts_nil : FTs X M [] cYes := PTs.imp pts_nil fun σ H Q q => by
  obtain ⟨H0, av0, av, ρ, d, c, e, k⟩ := q
  cases e
  exact k H Kp.refl
theorem fts_one {t : BF} (h : FT X M e t) : FTs X M [e] t := pts_one h
theorem lc_read (hM : MemOk M) (hW : MemW M) {it : LF} {g : GF} {t : BF} {f : EF} {vs ws : List Nat} (hv : ∀ v ∈ vs, v ∈ ws) {σ : L2.St} {H : Hp} {Q : VK} (q : tN X.K M (cLc it ws g t f) σ H Q) : tLc (tI0 X.K M it) (tG X.K M g vs) (tT X.K M t) (tE X.K M f) ws σ H Q := by
  obtain ⟨H0, av0, av, ρ, rs, c, e, post⟩ := q
  obtain ⟨ds, e1, e⟩ := bind_some e
  split at e
  · rename_i hlim
    refine ⟨H0, av0, av, ρ, ds, c, e1, fun J H1 k1 wk D hD => ?_⟩
    have c1 := c.mono k1
    -- what is left to make, and what is made
    refine ⟨fun i m H' => m = ds.length - i ∧ i ≤ ds.length ∧ Kp M noA H1 H' ∧ ∃ acc as rest, H' D = some (.lst acc) ∧ acc.length ≤ i ∧ BrL X.K M (andA av D) H' acc as ∧ lcL (wipeE ρ ws) g t f (ds.drop i) = some rest ∧ rs = as ++ rest,
      ⟨ds.length, by simp, Nat.zero_le _, Kp.new hM hD, [], [], rs, upd_same, Nat.le_refl _, .nil, by simpa using e, rfl⟩, ?_⟩
    rintro i m H' ⟨rfl, hi, k2, acc, as, rest, hA, hl, bA, e2, e3⟩
    have nd : ∀ a, andA av D a → av a ∨ H1 a = none := andA_new hD
    have c2 : Cor X.K M H0 av0 av H' σ ρ := c1.mono k2
    have cD : Cor X.K M H0 av0 (andA av D) H' (L2.wipe σ ws) (wipeE ρ ws) := by
      refine Cor.wipe ⟨c2.kp, fun a z => ?_, fun a z => .inl (c2.sub a z), c2.len, fun j s g => ?_, c2.sep, c2.gl⟩ ws
      · rcases z with z | z
        · exact c2.dom a z
        · rw [z, hA]; exact fun q => nomatch q
      · obtain ⟨x, g1, o⟩ := c1.slot j s g
        refine ⟨x, g1, ?_⟩
        cases s with
        | no => trivial
        | va d => obtain ⟨v, e, b⟩ := o; exact ⟨v, e, (b.weak nd).mono k2.of⟩
        | ow us => obtain ⟨p, ys, e, h1, h2, h3, h4, b⟩ := o; exact ⟨p, ys, e, .inl h1, h2, h3, k2.lst _ _ (fun z => z) h4, (b.weak nd).mono k2.of⟩
    have w := wk i (andA av D) H' nd cD.dom k2
    cases g1 : ds[i]? with
    | none =>
      refine .inl ⟨w.2 g1, ?_⟩
      have : ds.drop i = [] := List.drop_eq_nil_of_le (List.getElem?_eq_none_iff.mp g1)
      rw [this] at e2
      cases e2
      rw [List.append_nil] at e3
      subst e3
      exact post D acc H' (k1.trans k2) (k1.dom D hD) hA bA
    | some d =>
      obtain ⟨hlt, hd⟩ := List.getElem?_eq_some_iff.mp g1
      have hdr : ds.drop i = d :: ds.drop (i + 1) := by rw [List.drop_eq_getElem_cons hlt, hd]
      rw [hdr] at e2
      obtain ⟨ρ1, e4, e2⟩ := bind_some e2
      obtain ⟨b, e5, e2⟩ := bind_some e2
      refine .inr ⟨(w.1 d g1).1, fun H'' => i + 1 ≤ ds.length ∧ Kp M noA H1 H'' ∧ ∃ acc as rest, H'' D = some (.lst acc) ∧ acc.length ≤ i + 1 ∧ BrL X.K M (andA av D) H'' acc as ∧ lcL (wipeE ρ ws) g t f (ds.drop (i + 1)) = some rest ∧ rs = as ++ rest, fun H'' h => ⟨ds.length - (i + 1), by omega, rfl, h⟩, fun x H3 y => ?_⟩
      obtain ⟨k3, b3⟩ := (w.1 d g1).2 x H3 y
      refine ⟨H0, av0, andA av D, wipeE ρ ws, d, ρ1, cD.mono k3, b3, e4, fun σ4 w4 c4 => ?_⟩
      refine ⟨?_, ?_⟩
      · rw [wipe_sub hv w4, wipe_wipe]
      refine ⟨H0, av0, andA av D, ρ1, b, c4, e5, fun H4 k4 => ?_⟩
      have k24 : Kp M noA H1 H4 := (k2.trans k3).trans k4
      have hA4 : H4 D = some (.lst acc) := k4.lst _ _ (fun z => z) (k3.lst _ _ (fun z => z) hA)
      have bA4 := (bA.mono k3.of).mono k4.of
      cases b with
      | false =>
        rw [if_neg (by decide)] at e2
        refine iteF ?_
        exact ⟨hlt, k24, acc, as, rest, hA4, by omega, bA4, e2, e3⟩
      | true =>
        rw [if_pos rfl] at e2
        refine iteT ?_
        obtain ⟨z, e6, e2⟩ := bind_some e2
        obtain ⟨zs, e7, e2⟩ := bind_some e2
        cases e2
        refine ⟨H0, av0, andA av D, ρ1, z, c4.mono k4, e6, fun v H5 k5 b5 => ?_⟩
        have hA5 : H5 D = some (.lst acc) := k5.lst _ _ (fun z => z) hA4
        have k15 : Kp M noA H1 H5 := k24.trans k5
        have kw : Kp M (andA av D) H5 (upd H5 D (.lst (acc ++ [v]))) := by
          refine ⟨fun p us n e => ?_, fun p o u e => ?_, fun p us e => ?_, fun k p e => hW _ _ _ _ k p hA5 e, fun p e => ?_⟩
          · rw [upd_ne (fun z => n (.inr z))]; exact e
          · rw [upd_ne (ne_of e hA5 (fun z => nomatch z))]; exact e
          · rw [upd_ne (ne_of e hA5 (fun z => nomatch z))]; exact e
          · by_cases z : p = D
            · subst z; rw [upd_same] at e; cases e
            · rw [upd_ne z] at e; exact e
        refine ⟨acc, hA5, ?_, hlt, ?_, acc ++ [v], as ++ [z], zs, upd_same, ?_, ?_, e7, ?_⟩
        · rw [sizeLine_eq]
          have : ds.length ≤ 16777216 := hlim
          omega
        · refine ⟨fun p us n e => ?_, fun p o u e => kw.frz p o u (k15.frz p o u e), fun p us e => kw.tup p us (k15.tup p us e), fun k p e => kw.mm k p (k15.mm k p e), fun p e => k15.dom p (kw.dom p e)⟩
          rw [upd_ne (ne_of_none e hD)]
          exact k15.lst p us n e
        · rw [List.length_append]
          show acc.length + 1 ≤ i + 1
          omega
        · exact ((bA4.mono k5.of).append (.cons b5 .nil)).mono kw
        · rw [e3, List.append_assoc]; rfl
  · cases e
theorem fn_lc {scope : Scope} {own : List (Str × Nat)} {it : LF} {g : GF} {t : BF} {f : EF} {vs ws : List Nat} (hM : MemOk M) (hW : MemW M) (hc : X.calm = true) (hN : X.N.Nodup) (hi : FI0 X M tg iter it) (ok : BlkOk X.N X.env.scope scope own)
    (hg : ∀ (s : Shared) (H : Hp) (C : Addr) (cl : List (Str × Addr)) (fp : List Addr), FG (X.blk s H scope (compEnvC scope cl C X.env) fp) M tg g vs) (ht : ∀ (s : Shared) (H : Hp) (C : Addr) (cl : List (Str × Addr)) (fp : List Addr), FTs (X.blk s H scope (compEnvC scope cl C X.env) fp) M ifs t)
    (he : ∀ (s : Shared) (H : Hp) (C : Addr) (cl : List (Str × Addr)) (fp : List Addr), FE (X.blk s H scope (compEnvC scope cl C X.env) fp) M elt f) (hv : ∀ v ∈ vs, v ∈ ws := by decide) (hws : own.map (·.2) = ws := by rfl) (hs : ∀ x, foldedSetIterable iter X.env x = pure x := by intro _; rfl) :
    FN X M (.ListComp elt [⟨tg, iter, ifs, 0⟩] scope pos) (cLc it ws g t f) := by
  subst hws
  exact PE.imp (pe_lc hc hN hi ok hg ht he hs) fun σ H Q q => lc_read hM hW hv q
theorem lc_stmt {st : Stmt} {i : Nat} {it : LF} {g : GF} {t : BF} {f : EF} {vs ws : List Nat} (hM : MemOk M) (hW : MemW M) (hv : ∀ v ∈ vs, v ∈ ws) (h : PS X st (tAsg (tLc (tI0 X.K M it) (tG X.K M g vs) (tT X.K M t) (tE X.K M f) ws) (gName i))) : PS X st (tAsg (tN X.K M (cLc it ws g t f)) (gName i)) :=
  PS.imp h fun Dn σ H q => lc_read hM hW hv q
theorem new_stmt {st : Stmt} {i : Nat} {r : LF} (h : PS X st (tAsg (tN X.K M r) (gName i))) : PS X st (tAsg (tE X.K M (cL r)) (gName i)) := PS.imp h fun Dn σ H q => by
  obtain ⟨H0, av0, av, ρ, d, c, e, k⟩ := q
  obtain ⟨ds, e1, e⟩ := bind_some e
  cases e
  exact ⟨H0, av0, av, ρ, ds, c, e1, fun a xs H' k1 n1 h1 b1 => k _ H' k1 (.lst h1 (fun z => c.dom _ z n1) (b1.weak fun c z => .inl (.inl z)))⟩
/-- name = [..] on one line -/
theorem ps_lc {i : Nat} {y : Str} {py spos : Pos} {scope : Scope} {own : List (Str × Nat)} {it : LF} {g : GF} {t : BF} {f : EF} {vs ws : List Nat} (hM : MemOk M) (hW : MemW M) (hc : X.calm = true) (hN : X.N.Nodup) (hy : X.N[i]? = some y) (hyl : X.env.scope.names.lookup y = some .local)
    (hsw : swapsWith (.ListComp elt [⟨tg, iter, ifs, 0⟩] scope pos) (some (.Name y py)) spos.line X.env = pure true) (hi : FI0 X M tg iter it) (ok : BlkOk X.N X.env.scope scope own)
    (hg : ∀ (s : Shared) (H : Hp) (C : Addr) (cl : List (Str × Addr)) (fp : List Addr), FG (X.blk s H scope (compEnvC scope cl C X.env) fp) M tg g vs) (ht : ∀ (s : Shared) (H : Hp) (C : Addr) (cl : List (Str × Addr)) (fp : List Addr), FTs (X.blk s H scope (compEnvC scope cl C X.env) fp) M ifs t)
    (he : ∀ (s : Shared) (H : Hp) (C : Addr) (cl : List (Str × Addr)) (fp : List Addr), FE (X.blk s H scope (compEnvC scope cl C X.env) fp) M elt f) (hv : ∀ v ∈ vs, v ∈ ws := by decide) (hws : own.map (·.2) = ws := by rfl) (hs : ∀ x, foldedSetIterable iter X.env x = pure x := by intro _; rfl) :
    PS X (.Assign [.Name y py] (.ListComp elt [⟨tg, iter, ifs, 0⟩] scope pos) spos) (tAsg (tN X.K M (cLc it ws g t f)) (gName i)) := by
  subst hws
  exact lc_stmt hM hW hv (ps_setLc hc hN hy hyl hsw hi ok hg ht he hs)
end

/-! ## defs -/
section
variable (K : PySem.W.Frag) (M : Mem)
/-- what a def promises: it is the function F of its arguments -/
def spF (n : Nat) (F : List D → Option D) : Sp := fun vs H Q _ => ∃ av ds d, vs.length = n ∧ BrL K M av H vs ds ∧ (∀ a, av a → H a ≠ none) ∧ GL K M H ∧ F ds = some d ∧ ∀ v H', Kp M noA H H' → Br K M av H' v d → Q v H'
end
def startE (n : Nat) (ds : List D) : Ev := ds.map .va ++ List.replicate (n - ds.length) .no
def runF (n : Nat) (B : SF) : List D → Option D := fun ds => (B (startE n ds)).bind fun o => match o with
  | .rt d => some d
  | .nx _ => some .none
  | _ => none
section
variable {X : Cx} {M : Mem} {e : Expr} {pos : Pos}
theorem fe_call {k n : Nat} {f : Addr} {fd : FuncData} {ps : List Str} {F : List D → Option D} {x : Str} {p : Pos} {es : List Expr} {r : LF} (Gk : FnOk X.prog X.w X.K X.mg X.base CX0 k f fd ps (spF X.K M n F)) (hr : Room k X.A) (hg : Gl X x) (hm : X.mg x = some (.ref f)) (hk : PySem.W.keepIn X.K (.ref f) = true) (hb : Binds X.K fd ps [])
    (ha : FA X M (e :: es) r) (hn : (e :: es).length = n := by rfl) (hdb : (x == ("__debug__" : Str)) = false := by decide) (he : starEach (e :: es) X.env = (false, eval e X.env) :: starEach es X.env := by rfl) (hpl : (backTo pos (starEach es X.env)).any (·.1) = false := by rfl) :
    FE X M (.Call (.Name x p) (e :: es) [] pos) (cCall F (fun ρ => (r ρ).bind fun ds => if ds.length = n then some ds else none)) :=
  PE.imp (pe_call (E := E0) Gk hr hg hm hk hb .nil pass0 ha hdb he hpl) fun σ H Q q => by
    obtain ⟨H0, av0, av, ρ, d, c, e, k⟩ := q
    obtain ⟨ds, e1, e⟩ := bind_some e
    obtain ⟨ds', e2, e1⟩ := bind_some e1
    split at e1
    · rename_i hl
      cases e1
      refine ⟨H0, av0, av, ρ, ds, c, e2, fun vs H1 k1 b1 => ?_⟩
      refine ⟨av, ds, d, ?_, ?_, (c.mono k1).dom, (c.mono k1).gl, e, fun v H2 k2 b2 => k v H2 (k1.trans k2) b2⟩
      · rw [List.append_nil, b1.length]; exact hl
      · rw [List.append_nil]; exact b1
    · cases e1
theorem fe_call0 {k : Nat} {f : Addr} {fd : FuncData} {ps : List Str} {F : List D → Option D} {x : Str} {p : Pos} (Gk : FnOk X.prog X.w X.K X.mg X.base CX0 k f fd ps (spF X.K M 0 F)) (hr : Room k X.A) (hg : Gl X x) (hm : X.mg x = some (.ref f)) (hk : PySem.W.keepIn X.K (.ref f) = true) (hb : Binds X.K fd ps [])
    (hdb : (x == ("__debug__" : Str)) = false := by decide) : FE X M (.Call (.Name x p) [] [] pos) (cCall F cNil) :=
  PE.imp (pe_call0 (E := E0) Gk hr hg hm hk hb .nil pass0 hdb) fun σ H Q q => by
    obtain ⟨H0, av0, av, ρ, d, c, e, k⟩ := q
    obtain ⟨ds, e1, e⟩ := bind_some e
    cases e1
    exact ⟨av, [], d, rfl, .nil, c.dom, c.gl, e, fun v H2 k2 b2 => k v H2 k2 b2⟩
theorem start_cor {K : PySem.W.Frag} {av : Av} {H : Hp} {vs : List V} {ds : List D} {N : List Str} (b : BrL K M av H vs ds) (hd : ∀ a, av a → H a ≠ none) (gl : GL K M H) : Cor K M H av av H (L2.start N vs) (startE N.length ds) := by
  have hl := b.length
  have low : ∀ (i : Nat) (s : Sl), (startE N.length ds)[i]? = some s → ∃ x, (L2.start N vs)[i]? = some x ∧ SlOk K M H av av H x s ∧ ∀ es, s ≠ .ow es := by
    intro i s e
    unfold startE at e
    unfold L2.start
    by_cases hi : i < ds.length
    · rw [List.getElem?_append_left (by rw [List.length_map]; exact hi), List.getElem?_map] at e
      cases g : ds[i]? with
      | none => rw [g] at e; cases e
      | some d =>
        rw [g] at e
        cases e
        obtain ⟨v, g1, b1⟩ := b.get g
        exact ⟨some v, by rw [List.getElem?_append_left (by rw [List.length_map]; omega), List.getElem?_map, g1]; rfl, ⟨v, rfl, b1⟩, fun _ z => nomatch z⟩
    · rw [List.getElem?_append_right (by rw [List.length_map]; omega), List.length_map] at e
      have hm := List.mem_of_getElem? e
      have es := List.eq_of_mem_replicate hm
      subst es
      have hlt : i - ds.length < N.length - ds.length := by
        have := (List.getElem?_eq_some_iff.mp e).1
        simpa using this
      refine ⟨none, ?_, trivial, fun _ z => nomatch z⟩
      rw [List.getElem?_append_right (by rw [List.length_map]; omega), List.length_map, hl, List.getElem?_replicate, if_pos hlt]
  refine ⟨Kp.refl, hd, fun _ z => z, ?_, fun i s e => ?_, fun i j es fs a e1 _ _ _ => ?_, gl⟩
  · unfold L2.start startE
    simp [hl]
  · obtain ⟨x, h1, h2, _⟩ := low i s e
    exact ⟨x, h1, h2⟩
  · obtain ⟨_, _, _, h3⟩ := low i _ e1
    exact absurd rfl (h3 es)
/-- THE RULE for a def -/
theorem fun_ok {P : Program} {w : World} {K : PySem.W.Frag} {mg : Str → Option Value} {base : Heap} {x qual : Str} {st : Stmt} {f : Addr} {fd : FuncData} {N ps : List Str} {k : Nat} {B : SF} (F : Fun K x qual st f fd) (S : FnScope N ps (defScope st))
    (hbody : ∀ (cdv : Value) (A : Around) (outer : List Env) (s : Shared) (H : Hp) (E : XK), Room k (A.deeper (envOfC qual (defScope st) s.heap.objs.size f cdv)) → FSs (cxOf CX0 P w K mg base N qual (defScope st) f cdv A outer s H E).nox M (defBody st) B) :
    FnOk P w K mg base CX0 (k + 1) f fd ps (spF K M ps.length (runF N.length B)) := by
  refine F.ok S (fun vs H Q E h => ?_) (fun cdv A outer s H vs Q E hr h => ?_)
  · obtain ⟨_, _, _, h, _⟩ := h; exact h
  · obtain ⟨av, ds, d, hl, b, hd, gl, e, q⟩ := h
    refine ⟨_, hbody cdv A outer s H E hr, ?_⟩
    obtain ⟨o, e1, e⟩ := bind_some e
    refine ⟨H, av, av, _, o, start_cor b hd gl, e1, ?_⟩
    cases o with
    | rt d' => cases e; exact q
    | nx ρ => cases e; exact fun av' σ' H' k1 s1 c1 => q .non H' c1.kp .non
    | bk ρ => cases e
    | ct ρ => cases e
end
end G

namespace G
open PySem PySem.Spec PyProof.Rows L2

/-! ## data without tables is data of the library -/
section
variable {K : PySem.W.Frag} {M : Mem} {av : Av} {H : Hp}
mutual
theorem Br.dp {v : V} {d : D} (h : PyData.canLay0 d = true) : Br K M av H v d → Dp K H v d
  | .non => .non
  | .bl b => .bl b
  | .int i => .int i
  | .str x => .str x
  | .lst e n r => .lst (SqL.of e) (BrL.dp (by simpa only [PyData.canLay0] using h) r)
  | .tup e r => .tup (SqT.of e) (BrL.dp (by simpa only [PyData.canLay0] using h) r)
  | .scr _ => by simp [scrD, PyData.canLay0] at h
  | .mem _ => by simp [memD, PyData.canLay0] at h
theorem BrL.dp {vs : List V} {ds : List D} (h : PyData.canLayAll0 ds = true) : BrL K M av H vs ds → DpAll K H vs ds
  | .nil => .nil
  | .cons (d := d) (ds := ds) a r => by
    have h' : PyData.canLay0 d = true ∧ PyData.canLayAll0 ds = true := by simpa only [PyData.canLayAll0, Bool.and_eq_true] using h
    exact .cons (Br.dp h'.1 a) (BrL.dp h'.2 r)
end
theorem BrK.dp {v : V} {d : D} (h : PyData.canLay0 d = true) (b : BrK K M av H v d) : Dp K H v d := by
  rcases b with b | ⟨a, xs, ds, rfl, rfl, e, b⟩
  · exact b.dp h
  · exact .lst (SqL.of e) (b.dp (by simpa only [PyData.canLay0] using h))
theorem BrL.bls : ∀ (ns : List Bool), BrL K M av H (ns.map V.bl) (ns.map PyData.bool)
  | [] => .nil
  | n :: r => .cons (.bl n) (BrL.bls r)
theorem BrL.of_bls : ∀ {ns : List Bool} {vs : List V}, BrL K M av H vs (ns.map PyData.bool) → vs = ns.map V.bl
  | [], _, .nil => rfl
  | n :: r, _, .cons a b => by
    cases a with
    | bl i => rw [BrL.of_bls b]; rfl
end
/-- all intsD -/
def intsD : List D → Option (List Int)
  | [] => some []
  | .int i :: r => (intsD r).bind fun ns => some (i :: ns)
  | _ => none
def boolsD : List D → Option (List Bool)
  | [] => some []
  | .bool i :: r => (boolsD r).bind fun ns => some (i :: ns)
  | _ => none
theorem ints_of : ∀ {ds : List D} {ns : List Int}, intsD ds = some ns → ds = ns.map PyData.int
  | [], ns, h => by cases h; rfl
  | .int i :: r, ns, h => by
    obtain ⟨m, e, h⟩ := bind_some h
    cases h
    rw [ints_of e]; rfl
  | .none :: r, ns, h => by cases h
  | .bool _ :: r, ns, h => by cases h
  | .str _ :: r, ns, h => by cases h
  | .list _ :: r, ns, h => by cases h
  | .tuple _ :: r, ns, h => by cases h
  | .dict _ :: r, ns, h => by cases h
theorem bools_of : ∀ {ds : List D} {ns : List Bool}, boolsD ds = some ns → ds = ns.map PyData.bool
  | [], ns, h => by cases h; rfl
  | .bool i :: r, ns, h => by
    obtain ⟨m, e, h⟩ := bind_some h
    cases h
    rw [bools_of e]; rfl
  | .none :: r, ns, h => by cases h
  | .int _ :: r, ns, h => by cases h
  | .str _ :: r, ns, h => by cases h
  | .list _ :: r, ns, h => by cases h
  | .tuple _ :: r, ns, h => by cases h
  | .dict _ :: r, ns, h => by cases h
theorem ints_map : ∀ ns : List Int, intsD (ns.map PyData.int) = some ns
  | [] => rfl
  | n :: r => by
    show (intsD (r.map PyData.int)).bind _ = _
    rw [ints_map r]; rfl
theorem bools_map : ∀ ns : List Bool, boolsD (ns.map PyData.bool) = some ns
  | [] => rfl
  | n :: r => by
    show (boolsD (r.map PyData.bool)).bind _ = _
    rw [bools_map r]; rfl

/-! ## operations -/
def addD : D → D → Option D
  | .int i, .int j => some (.int (i + j))
  | .str x, .str y => if x.length + y.length ≤ lim then some (.str (x ++ y)) else none
  | .tuple xs, .tuple ys => if xs.length + ys.length ≤ lim then some (.tuple (xs ++ ys)) else none
  | .list xs, .list ys => if xs.length + ys.length ≤ lim then some (.list (xs ++ ys)) else none
  | _, _ => none
def subD : D → D → Option D
  | .int i, .int j => some (.int (i - j))
  | _, _ => none
def mulD : D → D → Option D
  | .int i, .int j => if (-(2 ^ 64) < i ∧ i < 2 ^ 64) ∨ (-(2 ^ 64) < j ∧ j < 2 ^ 64) then some (.int (i * j)) else none
  | .list xs, .int j => if 0 ≤ j ∧ j < 1000 ∧ xs.length ≤ 1000 then some (.list (List.replicate j.toNat xs).flatten) else none
  | _, _ => none
def fdivD : D → D → Option D
  | .int i, .int j => if 0 < j ∧ j < 1073741824 then some (.int (i / j)) else none
  | _, _ => none
def modD : D → D → Option D
  | .int i, .int j => if 0 < j then some (.int (i % j)) else none
  | _, _ => none
def negD : D → Option D
  | .int i => some (.int (-i))
  | _ => none
def eqD (d e : D) : Option D := if SeqAt.shaped d = true ∧ SeqAt.shaped e = true then some (.bool (PyData.eqv d e)) else none
def neD (d e : D) : Option D := if SeqAt.shaped d = true ∧ SeqAt.shaped e = true then some (.bool (!PyData.eqv d e)) else none
def ltD : D → D → Option D
  | .int i, .int j => some (.bool (decide (i < j)))
  | _, _ => none
def leD : D → D → Option D
  | .int i, .int j => some (.bool (decide (i ≤ j)))
  | _, _ => none
def gtD : D → D → Option D
  | .int i, .int j => some (.bool (decide (j < i)))
  | _, _ => none
def geD : D → D → Option D
  | .int i, .int j => some (.bool (decide (j ≤ i)))
  | _, _ => none
def isNone : D → Bool
  | .none => true
  | _ => false
def isD : D → D → Option D
  | d, .none => some (.bool (isNone d))
  | .bool a, .bool b => some (.bool (decide (a = b)))
  | _, _ => none
def isntD : D → D → Option D
  | d, .none => some (.bool (!isNone d))
  | .bool a, .bool b => some (.bool (!decide (a = b)))
  | _, _ => none
def inD (d : D) : D → Option D
  | .list ds => if SeqAt.shaped d = true ∧ SeqAt.shaped (.list ds) = true then some (.bool (ds.any fun z => PyData.eqv z d)) else none
  | .tuple ds => if SeqAt.shaped d = true ∧ SeqAt.shaped (.tuple ds) = true then some (.bool (ds.any fun z => PyData.eqv z d)) else none
  | _ => none
def ninD (d : D) : D → Option D
  | .list ds => if SeqAt.shaped d = true ∧ SeqAt.shaped (.list ds) = true then some (.bool (!ds.any fun z => PyData.eqv z d)) else none
  | .tuple ds => if SeqAt.shaped d = true ∧ SeqAt.shaped (.tuple ds) = true then some (.bool (!ds.any fun z => PyData.eqv z d)) else none
  | _ => none
def scrI : List (D × D) → Option (List Int)
  | [] => some []
  | (.int n, .none) :: r => (scrI r).bind fun ds => some (n :: ds)
  | _ => none
theorem scrI_of : ∀ ns : List Int, scrI (ns.map fun n => (PyData.int n, PyData.none)) = some ns
  | [] => rfl
  | n :: r => by
    show (scrI (r.map fun n => (PyData.int n, PyData.none))).bind _ = _
    rw [scrI_of r]; rfl
def ixD : D → D → Option D
  | .list ds, .int i => atI ds i
  | .tuple ds, .int i => atI ds i
  | .str z, .int i => if z.length ≤ lim then (atI z.cps.toList i).bind fun c => some (.str ⟨#[c]⟩) else none
  | .dict kvs, .int i => (scrI kvs).bind fun ns => (atI ns i).bind fun n => some (.int n)
  | _, _ => none

section
variable {K : PySem.W.Frag} {M : Mem} {av : Av} {H : Hp}
theorem BrL.atI {vs : List V} {ds : List D} {d : D} {i : Int} (b : BrL K M av H vs ds) (h : L2.atI ds i = some d) : ∃ v, L2.atI vs i = some v ∧ Br K M av H v d := by
  unfold L2.atI at h ⊢
  obtain ⟨j, e1, e2⟩ := bind_some h
  obtain ⟨v, e3, b'⟩ := b.get e2
  refine ⟨v, ?_, b'⟩
  rw [b.length, e1]
  exact e3
/-- the script's intsD stand there -/
theorem BrK.scr_ {v : V} {kvs : List (D × D)} {ns : List Int} (b : BrK K M av H v (.dict kvs)) (e : scrI kvs = some ns) : ∃ a, v = .ref a ∧ SqL K H a (ns.map V.int) := by
  rcases b with b | ⟨a, xs, ds, e1, e2, e3, b⟩
  · generalize hd : PyData.dict kvs = d at b
    cases b with
    | scr h =>
      rename_i a ms
      unfold scrD at hd
      injection hd with hd
      rw [hd, scrI_of] at e
      cases e
      refine ⟨a, rfl, ?_⟩
      rcases h with ⟨o, h⟩ | h
      · exact .inl (.inr ⟨o, h⟩)
      · rcases h with h | h
        · rcases h with h | ⟨o, h⟩ <;> cases h
        · exact .inr h
    | mem h =>
      unfold memD at hd
      injection hd with hd
      rw [hd] at e
      cases e
    | _ => cases hd
  · cases e2
theorem BrK.isNone {v : V} {d : D} (b : BrK K M av H v d) : decide (v = .non) = isNone d := by
  rcases b with b | ⟨a, xs, ds, rfl, rfl, e3, b⟩
  · cases b <;> rfl
  · rfl
end
section
variable {X : Cx} {M : Mem}
theorem o_add (hM : MemOk M) : OpR X (binaryOp .Add) (r2 X.K M addD) := by
  intro pins s σ H x y v u Q I rx ry h
  obtain ⟨av, d, e, r, b1, b2, hd, g, k⟩ := h
  unfold addD at g
  split at g
  · cases g
    exact op_add pins s σ H x y v u Q I rx ry ⟨_, _, b1.int_, b2.int_, k _ _ Kp.refl (.int _)⟩
  · split at g
    · rename_i hl
      cases g
      exact op_add_str pins s σ H x y v u Q I rx ry ⟨_, _, b1.str_, b2.str_, lim_ok hl, k _ _ Kp.refl (.str _)⟩
    · cases g
  · rename_i xs ys
    split at g
    · rename_i hl
      cases g
      obtain ⟨a, vs, rfl, ha, r1⟩ := b1.tuple
      obtain ⟨b, ws, rfl, hb, r2⟩ := b2.tuple
      refine op_catA pins s σ H _ _ v u Q I rx ry ⟨a, b, vs, ws, rfl, rfl, SqT.of ha, SqT.of hb, by rw [r1.length, r2.length]; exact lim_ok hl, fun z => ?_, fun z1 z2 => ?_, fun _ _ p hp => ?_⟩
      · subst z
        cases r1
        exact k _ _ Kp.refl (.tup hb r2)
      · subst z2
        cases r2
        rw [List.append_nil] at k
        exact k _ _ Kp.refl (.tup ha r1)
      · have kn := Kp.new (o := HO.tup (vs ++ ws)) hM hp
        exact k _ _ kn (.tup upd_same ((r1.append r2).mono kn.of))
    · cases g
  · rename_i xs ys
    split at g
    · rename_i hl
      cases g
      obtain ⟨a, vs, rfl, ha, r1⟩ := b1.list
      obtain ⟨b, ws, rfl, hb, r2⟩ := b2.list
      refine op_cat pins s σ H _ _ v u Q I rx ry ⟨a, b, vs, ws, rfl, rfl, ha, hb, by rw [r1.length, r2.length]; exact lim_ok hl, fun p hp => ?_⟩
      have kn := Kp.new (o := HO.lst (vs ++ ws)) hM hp
      exact k _ _ kn (.lst upd_same (fun z => hd _ z hp) ((r1.append r2).mono kn.of))
    · cases g
  · cases g
theorem o_sub : OpR X (binaryOp .Sub) (r2 X.K M subD) := by
  intro pins s σ H x y v u Q I rx ry h
  obtain ⟨av, d, e, r, b1, b2, hd, g, k⟩ := h
  unfold subD at g
  split at g
  · cases g
    exact op_sub pins s σ H x y v u Q I rx ry ⟨_, _, b1.int_, b2.int_, k _ _ Kp.refl (.int _)⟩
  · cases g
theorem rep_br {K : PySem.W.Frag} {av : Av} {H : Hp} {vs : List V} {ds : List D} (b : BrL K M av H vs ds) : ∀ n : Nat, BrL K M av H (List.replicate n vs).flatten (List.replicate n ds).flatten
  | 0 => .nil
  | n + 1 => by
    rw [List.replicate_succ, List.replicate_succ, List.flatten_cons, List.flatten_cons]
    exact b.append (rep_br b n)
theorem o_mul (hM : MemOk M) : OpR X (binaryOp .Mult) (r2 X.K M mulD) := by
  intro pins s σ H x y v u Q I rx ry h
  obtain ⟨av, d, e, r, b1, b2, hd, g, k⟩ := h
  unfold mulD at g
  split at g
  · split at g
    · rename_i hc
      cases g
      exact op_mul pins s σ H x y v u Q I rx ry ⟨_, _, b1.int_, b2.int_, hc, k _ _ Kp.refl (.int _)⟩
    · cases g
  · split at g
    · rename_i xs j hc
      cases g
      obtain ⟨a, vs, rfl, ha, r1⟩ := b1.list
      have hl := r1.length
      have h1 : vs.length * j.toNat ≤ 1000 * 1000 := Nat.mul_le_mul (by omega) (by omega)
      refine op_rep pins s σ H _ _ v u Q I rx ry ⟨a, j, vs, rfl, b2.int_, ha, by omega, by omega, by rw [sizeLine_eq]; omega, fun p hp => ?_⟩
      have kn := Kp.new (o := HO.lst (List.replicate j.toNat vs).flatten) hM hp
      exact k _ _ kn (.lst upd_same (fun z => hd _ z hp) ((rep_br r1 _).mono kn.of))
    · cases g
  · cases g
theorem o_fdiv : OpR X (binaryOp .FloorDiv) (r2 X.K M fdivD) := by
  intro pins s σ H x y v u Q I rx ry h
  obtain ⟨av, d, e, r, b1, b2, hd, g, k⟩ := h
  unfold fdivD at g
  split at g
  · split at g
    · rename_i hc
      cases g
      exact op_fdiv pins s σ H x y v u Q I rx ry ⟨_, _, b1.int_, b2.int_, hc, k _ _ Kp.refl (.int _)⟩
    · cases g
  · cases g
theorem o_mod : OpR X (binaryOp .Mod) (r2 X.K M modD) := by
  intro pins s σ H x y v u Q I rx ry h
  obtain ⟨av, d, e, r, b1, b2, hd, g, k⟩ := h
  unfold modD at g
  split at g
  · split at g
    · rename_i hc
      cases g
      exact op_mod pins s σ H x y v u Q I rx ry ⟨_, _, b1.int_, b2.int_, hc, k _ _ Kp.refl (.int _)⟩
    · cases g
  · cases g
theorem o_neg : UnR X (unaryOp .USub) (r1 X.K M negD) := by
  intro pins s σ H x v Q I rx h
  obtain ⟨av, d, r, b1, hd, g, k⟩ := h
  unfold negD at g
  split at g
  · cases g
    exact un_neg pins s σ H x v Q I rx ⟨_, b1.int_, k _ _ Kp.refl (.int _)⟩
  · cases g
theorem o_eq (hu : X.A.units + 64 < cLine) : OpR X (compareOp .Eq) (r2 X.K M eqD) := by
  intro pins s σ H x y v u Q I rx ry h
  obtain ⟨av, d, e, r, b1, b2, hd, g, k⟩ := h
  unfold eqD at g
  split at g
  · rename_i hs
    cases g
    exact op_eqD hu pins s σ H x y v u Q I rx ry ⟨d, e, b1.dp (SeqAt.canLay_of_shaped hs.1), b2.dp (SeqAt.canLay_of_shaped hs.2), hs.1, hs.2, k _ _ Kp.refl (.bl _)⟩
  · cases g
theorem o_ne (hu : X.A.units + 64 < cLine) : OpR X (compareOp .NotEq) (r2 X.K M neD) := by
  intro pins s σ H x y v u Q I rx ry h
  obtain ⟨av, d, e, r, b1, b2, hd, g, k⟩ := h
  unfold neD at g
  split at g
  · rename_i hs
    cases g
    exact op_neD hu pins s σ H x y v u Q I rx ry ⟨d, e, b1.dp (SeqAt.canLay_of_shaped hs.1), b2.dp (SeqAt.canLay_of_shaped hs.2), hs.1, hs.2, k _ _ Kp.refl (.bl _)⟩
  · cases g
theorem o_lt : OpR X (compareOp .Lt) (r2 X.K M ltD) := by
  intro pins s σ H x y v u Q I rx ry h
  obtain ⟨av, d, e, r, b1, b2, hd, g, k⟩ := h
  unfold ltD at g
  split at g
  · cases g
    exact op_lt pins s σ H x y v u Q I rx ry ⟨_, _, b1.int_, b2.int_, k _ _ Kp.refl (.bl _)⟩
  · cases g
theorem o_le : OpR X (compareOp .LtE) (r2 X.K M leD) := by
  intro pins s σ H x y v u Q I rx ry h
  obtain ⟨av, d, e, r, b1, b2, hd, g, k⟩ := h
  unfold leD at g
  split at g
  · cases g
    exact op_le pins s σ H x y v u Q I rx ry ⟨_, _, b1.int_, b2.int_, k _ _ Kp.refl (.bl _)⟩
  · cases g
theorem o_gt : OpR X (compareOp .Gt) (r2 X.K M gtD) := by
  intro pins s σ H x y v u Q I rx ry h
  obtain ⟨av, d, e, r, b1, b2, hd, g, k⟩ := h
  unfold gtD at g
  split at g
  · cases g
    exact op_gt pins s σ H x y v u Q I rx ry ⟨_, _, b1.int_, b2.int_, k _ _ Kp.refl (.bl _)⟩
  · cases g
theorem o_ge : OpR X (compareOp .GtE) (r2 X.K M geD) := by
  intro pins s σ H x y v u Q I rx ry h
  obtain ⟨av, d, e, r, b1, b2, hd, g, k⟩ := h
  unfold geD at g
  split at g
  · cases g
    exact op_ge pins s σ H x y v u Q I rx ry ⟨_, _, b1.int_, b2.int_, k _ _ Kp.refl (.bl _)⟩
  · cases g
theorem o_is : OpR X (compareOp .Is) (r2 X.K M isD) := by
  intro pins s σ H x y v u Q I rx ry h
  obtain ⟨av, d, e, r, b1, b2, hd, g, k⟩ := h
  unfold isD at g
  split at g
  · cases g
    refine op_isN pins s σ H x y v u Q I rx ry ⟨b2.none_, ?_⟩
    rw [b1.isNone]
    exact k _ _ Kp.refl (.bl _)
  · cases g
    exact op_isBl pins s σ H x y v u Q I rx ry ⟨_, _, b1.bool_, b2.bool_, k _ _ Kp.refl (.bl _)⟩
  · cases g
theorem o_isnt : OpR X (compareOp .IsNot) (r2 X.K M isntD) := by
  intro pins s σ H x y v u Q I rx ry h
  obtain ⟨av, d, e, r, b1, b2, hd, g, k⟩ := h
  unfold isntD at g
  split at g
  · cases g
    refine op_notN pins s σ H x y v u Q I rx ry ⟨b2.none_, ?_⟩
    rw [b1.isNone]
    exact k _ _ Kp.refl (.bl _)
  · cases g
    exact op_notBl pins s σ H x y v u Q I rx ry ⟨_, _, b1.bool_, b2.bool_, k _ _ Kp.refl (.bl _)⟩
  · cases g
theorem o_in (hu : X.A.units + 65 < cLine) : OpR X (compareOp .In) (r2 X.K M inD) := by
  intro pins s σ H x y v u Q I rx ry h
  obtain ⟨av, d, e, r, b1, b2, hd, g, k⟩ := h
  unfold inD at g
  split at g
  · split at g
    · rename_i hs
      cases g
      exact op_inD hu pins s σ H x y v u Q I rx ry ⟨d, _, b1.dp (SeqAt.canLay_of_shaped hs.1), b2.dp (SeqAt.canLay_of_shaped hs.2), hs.1, hs.2, k _ _ Kp.refl (.bl _)⟩
    · cases g
  · split at g
    · rename_i hs
      cases g
      obtain ⟨as, q1⟩ := Dp.reads I _ x v (b1.dp (SeqAt.canLay_of_shaped hs.1)) rx
      obtain ⟨bs, q2⟩ := Dp.reads I _ y u (b2.dp (SeqAt.canLay_of_shaped hs.2)) ry
      have h2 := SeqAt.canLay_of_shaped hs.2
      exact SeqAt.in_tuple_reads q2 q1 (by simpa only [PyData.canLay0] using h2) (SeqAt.canLay_of_shaped hs.1) (room_in_shaped hs.1 hu) ⟨.bl _, H, I, rfl, k _ _ Kp.refl (.bl _)⟩
    · cases g
  · cases g
theorem o_nin (hu : X.A.units + 65 < cLine) : OpR X (compareOp .NotIn) (r2 X.K M ninD) := by
  intro pins s σ H x y v u Q I rx ry h
  obtain ⟨av, d, e, r, b1, b2, hd, g, k⟩ := h
  unfold ninD at g
  split at g
  · split at g
    · rename_i hs
      cases g
      exact op_notInD hu pins s σ H x y v u Q I rx ry ⟨d, _, b1.dp (SeqAt.canLay_of_shaped hs.1), b2.dp (SeqAt.canLay_of_shaped hs.2), hs.1, hs.2, k _ _ Kp.refl (.bl _)⟩
    · cases g
  · split at g
    · rename_i hs
      cases g
      obtain ⟨as, q1⟩ := Dp.reads I _ x v (b1.dp (SeqAt.canLay_of_shaped hs.1)) rx
      obtain ⟨bs, q2⟩ := Dp.reads I _ y u (b2.dp (SeqAt.canLay_of_shaped hs.2)) ry
      have h2 := SeqAt.canLay_of_shaped hs.2
      exact SeqAt.notIn_tuple_reads q2 q1 (by simpa only [PyData.canLay0] using h2) (SeqAt.canLay_of_shaped hs.1) (room_in_shaped hs.1 hu) ⟨.bl _, H, I, rfl, k _ _ Kp.refl (.bl _)⟩
    · cases g
  · cases g
theorem o_ix : IxR X (r2 X.K M ixD) := by
  intro value slice pins s σ H x y v u Q I rx ry h
  obtain ⟨av, d, e, r, b1, b2, hd, g, k⟩ := h
  unfold ixD at g
  split at g
  · obtain ⟨a, vs, rfl, ha, r1⟩ := b1.list
    obtain ⟨w, e1, b⟩ := r1.atI g
    exact ix_list value slice pins s σ H _ _ v u Q I rx ry ⟨a, vs, _, w, rfl, b2.int_, SqL.of ha, e1, k _ _ Kp.refl b⟩
  · obtain ⟨a, vs, rfl, ha, r1⟩ := b1.tuple
    obtain ⟨w, e1, b⟩ := r1.atI g
    exact ix_tup value slice pins s σ H _ _ v u Q I rx ry ⟨a, vs, _, w, rfl, b2.int_, SqT.of ha, e1, k _ _ Kp.refl b⟩
  · split at g
    · rename_i hl
      obtain ⟨c, e1, g⟩ := bind_some g
      cases g
      exact ix_str value slice pins s σ H _ _ v u Q I rx ry ⟨_, _, c, b1.str_, b2.int_, lim_ok hl, e1, k _ _ Kp.refl (.str _)⟩
    · cases g
  · obtain ⟨ns, e1, g⟩ := bind_some g
    obtain ⟨n, e2, g⟩ := bind_some g
    cases g
    obtain ⟨a, rfl, hs⟩ := b1.scr_ e1
    refine ix_list value slice pins s σ H _ _ v u Q I rx ry ⟨a, _, _, .int n, rfl, b2.int_, hs, ?_, k _ _ Kp.refl (.int _)⟩
    unfold L2.atI at e2 ⊢
    obtain ⟨j, e3, e4⟩ := bind_some e2
    rw [List.length_map, e3]
    show (ns.map V.int)[j]? = _
    rw [List.getElem?_map, e4]; rfl
  · cases g
end

/-! ## chains -/
def cChn (g g' : D → D → Option D) (f h l : EF) : EF := fun ρ => (f ρ).bind fun x => (h ρ).bind fun y => (g x y).bind fun z => (asB z).bind fun b => if b = true then (l ρ).bind fun w => g' y w else some (.bool false)
section
variable {X : Cx} {M : Mem} {a b c : Expr} {f h l : EF} {pos : Pos}
theorem chn_read {g g' : D → D → Option D} {σ : L2.St} {H : Hp} {Q : VK} (q : tE X.K M (cChn g g' f h l) σ H Q) : tChain (r2 X.K M g) (r2 X.K M g') (tK X.K M f) (tK X.K M h) (tK X.K M l) σ H Q := by
  obtain ⟨H0, av0, av, ρ, d, c, e, k⟩ := q
  obtain ⟨x, e1, e⟩ := bind_some e
  obtain ⟨y, e2, e⟩ := bind_some e
  obtain ⟨z, e3, e⟩ := bind_some e
  obtain ⟨bb, e4, e⟩ := bind_some e
  refine ⟨H0, av0, av, ρ, x, c, e1, fun v H1 k1 b1 => ?_⟩
  refine ⟨H0, av0, av, ρ, y, c.mono k1, e2, fun w H2 k2 b2 => ?_⟩
  refine ⟨av, x, y, z, b1.mono k2, b2, (c.mono (k1.trans k2)).dom, e3, fun u H3 k3 b3 => ?_⟩
  unfold asB at e4
  split at e4
  · cases e4
    cases b3
    refine ⟨_, rfl, ?_⟩
    cases bb with
    | true =>
      have e : ((l ρ).bind fun w => g' y w) = some d := e
      obtain ⟨t, e5, e⟩ := bind_some e
      refine ⟨H0, av0, av, ρ, t, c.mono ((k1.trans k2).trans k3), e5, fun u4 H4 k4 b4 => ?_⟩
      exact ⟨av, y, t, d, (b2.mono k3).mono k4, b4, (c.mono (((k1.trans k2).trans k3).trans k4)).dom, e, fun v5 H5 k5 b5 => k v5 H5 ((((k1.trans k2).trans k3).trans k4).trans k5) b5⟩
    | false => cases e; exact k _ _ ((k1.trans k2).trans k3) (.bl _)
  · cases e4
theorem fe_chn {op op' : CmpOp} {g g' : D → D → Option D} (ho : OpR X (compareOp op) (r2 X.K M g)) (ho' : OpR X (compareOp op') (r2 X.K M g')) (ha : FK X M a f) (hb : FK X M b h) (hc : FK X M c l) (hm : lastMarks [op, op'] [b, c] = false := by with_unfolding_all rfl) : FE X M (.Compare a [op, op'] [b, c] pos) (cChn g g' f h l) :=
  PE.imp (pe_chain ho ho' ha hb hc hm) fun σ H Q q => chn_read q
theorem ft_chn {op op' : CmpOp} {g g' : D → D → Option D} (ho : OpR X (compareOp op) (r2 X.K M g)) (ho' : OpR X (compareOp op') (r2 X.K M g')) (ha : FK X M a f) (hb : FK X M b h) (hc : FK X M c l) (hm : lastMarks [op, op'] [b, c] = false := by with_unfolding_all rfl) : FT X M (.Compare a [op, op'] [b, c] pos) (cT1 asB (cChn g g' f h l)) :=
  PT.imp (pt_chain ho ho' ha hb hc hm) fun σ H Q q => by
    obtain ⟨H0, av0, av, ρ, d, c, e, k⟩ := q
    obtain ⟨x, e1, e⟩ := bind_some e
    refine chn_read ⟨H0, av0, av, ρ, x, c, e1, fun v H1 k1 b1 => ?_⟩
    unfold asB at e
    split at e
    · cases e
      cases b1
      exact ⟨_, rfl, k H1 k1⟩
    · cases e
end

/-! ## slices -/
abbrev OF := Ev → Option (Option Int)
def tO (K : PySem.W.Frag) (M : Mem) (f : OF) : TO := fun σ H Q => ∃ H0 av0 av ρ o, Cor K M H0 av0 av H σ ρ ∧ f ρ = some o ∧ ∀ H', Kp M noA H H' → Q o H'
abbrev FO (X : Cx) (M : Mem) (e : Option Expr) (f : OF) : Prop := PO X e (tO X.K M f)
def cNo : OF := fun _ => some none
def cPt (f : EF) : OF := fun ρ => (f ρ).bind fun d => match d with
  | .int i => some (some i)
  | _ => none
def cutL (xs : List D) (lo hi : Option Int) : List D := (xs.drop (HT.sIx xs.length 0 lo)).take (HT.sIx xs.length xs.length hi - HT.sIx xs.length 0 lo)
def slD : D → Option Int → Option Int → Option D
  | .list ds, lo, hi => some (.list (cutL ds lo hi))
  | .tuple ds, lo, hi => some (.tuple (cutL ds lo hi))
  | .str z, lo, hi => if z.length ≤ lim then some (.str (cutS z lo hi)) else none
  | _, _, _ => none
def cSl (f : EF) (l h : OF) : EF := fun ρ => (f ρ).bind fun x => (l ρ).bind fun lo => (h ρ).bind fun hi => slD x lo hi
def r3 (K : PySem.W.Frag) (M : Mem) (g : D → Option Int → Option Int → Option D) : V → Option Int → Option Int → Hp → VK → Prop := fun x lo hi H Q => ∃ av d r, BrK K M av H x d ∧ (∀ a, av a → H a ≠ none) ∧ g d lo hi = some r ∧ ∀ v H', Kp M noA H H' → Br K M av H' v r → Q v H'
section
variable {X : Cx} {M : Mem} {a e : Expr} {f : EF} {lo hi : Option Expr} {l h : OF} {pos p2 : Pos}
theorem fo_none : FO X M none cNo := ⟨fun pins s σ H Q I q => by
  obtain ⟨H0, av0, av, ρ, d, c, e, k⟩ := q
  cases e
  exact po_none.run pins s σ H Q I (k H Kp.refl)⟩
theorem fo_some (he : FE X M e f) : FO X M (some e) (cPt f) := ⟨fun pins s σ H Q I q => by
  obtain ⟨H0, av0, av, ρ, d, c, e, k⟩ := q
  obtain ⟨x, e1, e⟩ := bind_some e
  split at e
  · cases e
    refine (po_some he).run pins s σ H Q I ⟨H0, av0, av, ρ, _, c, e1, fun v H1 k1 b1 => ?_⟩
    cases b1
    exact ⟨_, rfl, k H1 k1⟩
  · cases e⟩
theorem BrL.cut {K : PySem.W.Frag} {av : Av} {H : Hp} {vs : List V} {ds : List D} (b : BrL K M av H vs ds) (lo hi : Option Int) : BrL K M av H (cutV vs lo hi) (cutL ds lo hi) := by
  unfold cutV cutL
  rw [b.length]
  exact (b.drop _).take _
theorem cutL_whole {ds : List D} {lo hi : Option Int} (h : HT.sIx ds.length 0 lo = 0 ∧ HT.sIx ds.length ds.length hi = ds.length) : cutL ds lo hi = ds := by
  unfold cutL
  rw [h.1, h.2, List.drop_zero, Nat.sub_zero, List.take_length]
theorem s_any (hM : MemOk M) : SlR X (r3 X.K M slD) := by
  intro pins s σ H x v vl vu lo hi sl Q I rx hs pl pu h
  obtain ⟨av, d, r, b1, hd, g, k⟩ := h
  unfold slD at g
  split at g
  · cases g
    obtain ⟨a, vs, rfl, ha, r1⟩ := b1.list
    refine sl_list pins s σ H _ v vl vu _ _ sl Q I rx hs pl pu ⟨a, vs, rfl, SqL.of ha, fun p hp => ?_⟩
    have kn := Kp.new (o := HO.lst (cutV vs lo hi)) hM hp
    exact k _ _ kn (.lst upd_same (fun z => hd _ z hp) ((r1.cut lo hi).mono kn.of))
  · rename_i ds _ _
    cases g
    obtain ⟨a, vs, rfl, ha, r1⟩ := b1.tuple
    refine sl_tupA pins s σ H _ v vl vu _ _ sl Q I rx hs pl pu ⟨a, vs, rfl, SqT.of ha, fun w => ?_, fun w p hp => ?_⟩
    · rw [r1.length] at w
      rw [cutL_whole w] at k
      exact k _ _ Kp.refl (.tup ha r1)
    · have kn := Kp.new (o := HO.tup (cutV vs lo hi)) hM hp
      exact k _ _ kn (.tup upd_same ((r1.cut lo hi).mono kn.of))
  · split at g
    · rename_i hl
      cases g
      exact sl_str pins s σ H _ v vl vu _ _ sl Q I rx hs pl pu ⟨_, b1.str_, lim_ok hl, k _ _ Kp.refl (.str _)⟩
    · cases g
  · cases g
theorem fe_sl (hM : MemOk M) (he : FK X M e f) (hl : FO X M lo l) (hu : FO X M hi h) : FE X M (.Subscript e (.Slice lo hi none p2) pos) (cSl f l h) := PE.imp (pe_slice (s_any hM) he hl hu) fun σ H Q q => by
  obtain ⟨H0, av0, av, ρ, d, c, e, k⟩ := q
  obtain ⟨x, e1, e⟩ := bind_some e
  obtain ⟨y, e2, e⟩ := bind_some e
  obtain ⟨z, e3, e⟩ := bind_some e
  refine ⟨H0, av0, av, ρ, x, c, e1, fun v H1 k1 b1 => ?_⟩
  refine ⟨H0, av0, av, ρ, y, c.mono k1, e2, fun H2 k2 => ?_⟩
  refine ⟨H0, av0, av, ρ, z, c.mono (k1.trans k2), e3, fun H3 k3 => ?_⟩
  exact ⟨av, x, d, (b1.mono k2).mono k3, (c.mono ((k1.trans k2).trans k3)).dom, e, fun u H4 k4 b4 => k u H4 (((k1.trans k2).trans k3).trans k4) b4⟩
end

/-! ## built-ins -/
def lenD : List D → Option D
  | [.list ds] => some (.int ds.length)
  | [.tuple ds] => some (.int ds.length)
  | [.str z] => if z.length ≤ lim then some (.int z.length) else none
  | [.dict kvs] => (scrI kvs).bind fun ns => some (.int ns.length)
  | _ => none
def tupleD : List D → Option D
  | [.list ds] => some (.tuple ds)
  | [.tuple ds] => some (.tuple ds)
  | _ => none
def listD : List D → Option D
  | [.list ds] => some (.list ds)
  | [.tuple ds] => some (.list ds)
  | _ => none
def sumD : List D → Option D
  | [.list ds] => (intsD ds).bind fun ns => some (.int ns.sum)
  | _ => none
def allD : List D → Option D
  | [.list ds] => (boolsD ds).bind fun bs => some (.bool (bs.all id))
  | _ => none
def anyD : List D → Option D
  | [.list ds] => (boolsD ds).bind fun bs => some (.bool (bs.any id))
  | _ => none
def absD : List D → Option D
  | [.int i] => some (.int (if i < 0 then -i else i))
  | _ => none
def intD : List D → Option D
  | [.int i] => some (.int i)
  | [.bool b] => some (.int (if b then 1 else 0))
  | _ => none
theorem one_k {K : PySem.W.Frag} {M : Mem} {av : Av} {H : Hp} {xs : List V} {d : D} (b : BrKL K M av H xs [d]) : ∃ v, xs = [v] ∧ BrK K M av H v d := by
  cases b with
  | cons a r => cases r; exact ⟨_, rfl, a⟩
theorem two_k {K : PySem.W.Frag} {M : Mem} {av : Av} {H : Hp} {xs : List V} {d e : D} (b : BrKL K M av H xs [d, e]) : ∃ v w, xs = [v, w] ∧ BrK K M av H v d ∧ BrK K M av H w e := by
  cases b with
  | cons a r =>
    cases r with
    | cons a2 r => cases r; exact ⟨_, _, rfl, a, a2⟩
section
variable {X : Cx} {M : Mem}
theorem c_len : CallR X (.builtin "len") (rC X.K M lenD) := by
  intro pins s σ H xs us Q I r h
  obtain ⟨av, ds, z, b, hd, g, k⟩ := h
  unfold lenD at g
  split at g
  · cases g
    obtain ⟨v, rfl, b1⟩ := one_k b
    obtain ⟨a, vs, rfl, ha, r1⟩ := b1.list
    refine call_len pins s σ H _ us Q I r ⟨_, vs.length, rfl, .inl ⟨vs, SqL.of ha, rfl⟩, ?_⟩
    rw [r1.length]
    exact k _ _ Kp.refl (.int _)
  · cases g
    obtain ⟨v, rfl, b1⟩ := one_k b
    obtain ⟨a, vs, rfl, ha, r1⟩ := b1.tuple
    refine call_len pins s σ H _ us Q I r ⟨_, vs.length, rfl, .inr ⟨vs, SqT.of ha, rfl⟩, ?_⟩
    rw [r1.length]
    exact k _ _ Kp.refl (.int _)
  · split at g
    · rename_i hl
      cases g
      obtain ⟨v, rfl, b1⟩ := one_k b
      have e := b1.str_
      subst e
      exact call_len pins s σ H _ us Q I r ⟨_, _, rfl, ⟨lim_ok hl, rfl⟩, k _ _ Kp.refl (.int _)⟩
    · cases g
  · obtain ⟨ns, e1, g⟩ := bind_some g
    cases g
    obtain ⟨v, rfl, b1⟩ := one_k b
    obtain ⟨a, rfl, hs⟩ := b1.scr_ e1
    refine call_len pins s σ H _ us Q I r ⟨_, _, rfl, .inl ⟨_, hs, rfl⟩, ?_⟩
    rw [List.length_map]
    exact k _ _ Kp.refl (.int _)
  · cases g
theorem c_tuple (hM : MemOk M) : CallR X (.type "tuple") (rC X.K M tupleD) := by
  intro pins s σ H xs us Q I r h
  obtain ⟨av, ds, z, b, hd, g, k⟩ := h
  unfold tupleD at g
  split at g
  · cases g
    obtain ⟨v, rfl, b1⟩ := one_k b
    obtain ⟨a, vs, rfl, ha, r1⟩ := b1.list
    refine call_tuple_of pins s σ H _ us Q I r ⟨a, vs, rfl, .inl ⟨SqL.of ha, fun p hp => ?_⟩⟩
    have kn := Kp.new (o := HO.tup vs) hM hp
    exact k _ _ kn (.tup upd_same (r1.mono kn.of))
  · cases g
    obtain ⟨v, rfl, b1⟩ := one_k b
    obtain ⟨a, vs, rfl, ha, r1⟩ := b1.tuple
    exact call_tuple_of pins s σ H _ us Q I r ⟨a, vs, rfl, .inr ⟨SqT.of ha, k _ _ Kp.refl (.tup ha r1)⟩⟩
  · cases g
theorem c_list (hM : MemOk M) : CallR X (.type "list") (rC X.K M listD) := by
  intro pins s σ H xs us Q I r h
  obtain ⟨av, ds, z, b, hd, g, k⟩ := h
  unfold listD at g
  split at g
  · cases g
    obtain ⟨v, rfl, b1⟩ := one_k b
    obtain ⟨a, vs, rfl, ha, r1⟩ := b1.list
    refine call_list_of pins s σ H _ us Q I r ⟨a, vs, rfl, .inl (SqL.of ha), fun p hp => ?_⟩
    have kn := Kp.new (o := HO.lst vs) hM hp
    exact k _ _ kn (.lst upd_same (fun z => hd _ z hp) (r1.mono kn.of))
  · cases g
    obtain ⟨v, rfl, b1⟩ := one_k b
    obtain ⟨a, vs, rfl, ha, r1⟩ := b1.tuple
    refine call_list_of pins s σ H _ us Q I r ⟨a, vs, rfl, .inr (SqT.of ha), fun p hp => ?_⟩
    have kn := Kp.new (o := HO.lst vs) hM hp
    exact k _ _ kn (.lst upd_same (fun z => hd _ z hp) (r1.mono kn.of))
  · cases g
theorem c_sum (hc : X.calm = true) : CallR X (.builtin "sum") (rC X.K M sumD) := by
  intro pins s σ H xs us Q I r h
  obtain ⟨av, ds, z, b, hd, g, k⟩ := h
  unfold sumD at g
  split at g
  · obtain ⟨ns, e1, g⟩ := bind_some g
    cases g
    obtain ⟨v, rfl, b1⟩ := one_k b
    obtain ⟨a, vs, rfl, ha, r1⟩ := b1.list
    rw [ints_of e1] at r1
    have e := r1.of_ints
    subst e
    exact cr_sum hc pins s σ H _ us Q I r ⟨a, ns, rfl, SqL.of ha, k _ _ Kp.refl (.int _)⟩
  · cases g
theorem c_all (hc : X.calm = true) : CallR X (.builtin "all") (rC X.K M allD) := by
  intro pins s σ H xs us Q I r h
  obtain ⟨av, ds, z, b, hd, g, k⟩ := h
  unfold allD at g
  split at g
  · obtain ⟨ns, e1, g⟩ := bind_some g
    cases g
    obtain ⟨v, rfl, b1⟩ := one_k b
    obtain ⟨a, vs, rfl, ha, r1⟩ := b1.list
    rw [bools_of e1] at r1
    have e := r1.of_bls
    subst e
    exact cr_all hc pins s σ H _ us Q I r ⟨a, ns, rfl, SqL.of ha, k _ _ Kp.refl (.bl _)⟩
  · cases g
theorem c_any (hc : X.calm = true) : CallR X (.builtin "any") (rC X.K M anyD) := by
  intro pins s σ H xs us Q I r h
  obtain ⟨av, ds, z, b, hd, g, k⟩ := h
  unfold anyD at g
  split at g
  · obtain ⟨ns, e1, g⟩ := bind_some g
    cases g
    obtain ⟨v, rfl, b1⟩ := one_k b
    obtain ⟨a, vs, rfl, ha, r1⟩ := b1.list
    rw [bools_of e1] at r1
    have e := r1.of_bls
    subst e
    exact cr_any hc pins s σ H _ us Q I r ⟨a, ns, rfl, SqL.of ha, k _ _ Kp.refl (.bl _)⟩
  · cases g
theorem c_abs : CallR X (.builtin "abs") (rC X.K M absD) := by
  intro pins s σ H xs us Q I r h
  obtain ⟨av, ds, z, b, hd, g, k⟩ := h
  unfold absD at g
  split at g
  · cases g
    obtain ⟨v, rfl, b1⟩ := one_k b
    exact call_abs pins s σ H _ us Q I r ⟨_, by rw [b1.int_], k _ _ Kp.refl (.int _)⟩
  · cases g
theorem c_int : CallR X (.type "int") (rC X.K M intD) := by
  intro pins s σ H xs us Q I r h
  obtain ⟨av, ds, z, b, hd, g, k⟩ := h
  unfold intD at g
  split at g
  · cases g
    obtain ⟨v, rfl, b1⟩ := one_k b
    exact call_int1 pins s σ H _ us Q I r (.inl ⟨_, by rw [b1.int_], k _ _ Kp.refl (.int _)⟩)
  · cases g
    obtain ⟨v, rfl, b1⟩ := one_k b
    exact call_int1 pins s σ H _ us Q I r (.inr ⟨_, by rw [b1.bool_], k _ _ Kp.refl (.int _)⟩)
  · cases g
end

/-! ## isinstance -/
def isiD (T : String) : D → Option D
  | .none => if T = "tuple" ∨ T = "int" ∨ T = "bool" ∨ T = "str" then some (.bool false) else none
  | .bool _ => if T = "int" ∨ T = "bool" then some (.bool true) else if T = "tuple" ∨ T = "str" then some (.bool false) else none
  | .int _ => if T = "int" then some (.bool true) else if T = "tuple" ∨ T = "bool" ∨ T = "str" then some (.bool false) else none
  | .str _ => if T = "str" then some (.bool true) else if T = "tuple" ∨ T = "int" ∨ T = "bool" then some (.bool false) else none
  | .list _ => if T = "tuple" ∨ T = "int" ∨ T = "bool" ∨ T = "str" then some (.bool false) else none
  | .tuple _ => if T = "tuple" then some (.bool true) else if T = "int" ∨ T = "bool" ∨ T = "str" then some (.bool false) else none
  | .dict _ => none
def tyS : D → String
  | .none => "NoneType"
  | .bool _ => "bool"
  | .int _ => "int"
  | .str _ => "str"
  | .list _ => "list"
  | .tuple _ => "tuple"
  | .dict _ => "dict"
theorem isi_kit {T : String} {d r : D} (h : isiD T d = some r) : ∃ b, r = .bool b ∧ kitB (tyS d) T = some b := by
  unfold isiD at h
  split at h
  · split at h
    · rename_i ht
      cases h
      refine ⟨_, rfl, ?_⟩
      rcases ht with rfl | rfl | rfl | rfl <;> (simp only [tyS]; decide +kernel)
    · cases h
  · split at h
    · rename_i ht
      cases h
      refine ⟨_, rfl, ?_⟩
      rcases ht with rfl | rfl <;> (simp only [tyS]; decide +kernel)
    · split at h
      · rename_i ht
        cases h
        refine ⟨_, rfl, ?_⟩
        rcases ht with rfl | rfl <;> (simp only [tyS]; decide +kernel)
      · cases h
  · split at h
    · rename_i ht
      cases h
      subst ht
      exact ⟨_, rfl, by simp only [tyS]; decide +kernel⟩
    · split at h
      · rename_i ht
        cases h
        refine ⟨_, rfl, ?_⟩
        rcases ht with rfl | rfl | rfl <;> (simp only [tyS]; decide +kernel)
      · cases h
  · split at h
    · rename_i ht
      cases h
      subst ht
      exact ⟨_, rfl, by simp only [tyS]; decide +kernel⟩
    · split at h
      · rename_i ht
        cases h
        refine ⟨_, rfl, ?_⟩
        rcases ht with rfl | rfl | rfl <;> (simp only [tyS]; decide +kernel)
      · cases h
  · split at h
    · rename_i ht
      cases h
      refine ⟨_, rfl, ?_⟩
      rcases ht with rfl | rfl | rfl | rfl <;> (simp only [tyS]; decide +kernel)
    · cases h
  · split at h
    · rename_i ht
      cases h
      subst ht
      exact ⟨_, rfl, by simp only [tyS]; decide +kernel⟩
    · split at h
      · rename_i ht
        cases h
        refine ⟨_, rfl, ?_⟩
        rcases ht with rfl | rfl | rfl <;> (simp only [tyS]; decide +kernel)
      · cases h
  · cases h
theorem Br.ty {K : PySem.W.Frag} {M : Mem} {av : Av} {H : Hp} {v : V} {d : D} (b : BrK K M av H v d) (hd : ∀ k, d ≠ .dict k) : TyX K H v (.type (tyS d)) := by
  rcases b with b | ⟨a, xs, ds, rfl, rfl, e3, b⟩
  · cases b with
    | non => exact .base .non
    | bl b => exact .base (.bl b)
    | int b => exact .base (.int b)
    | str b => exact .base (.str b)
    | lst e _ _ => exact .base (.lst e)
    | tup e _ => exact .base (.tup e)
    | scr _ => exact absurd rfl (hd _)
    | mem _ => exact absurd rfl (hd _)
  · exact .base (.lst e3)
section
variable {X : Cx} {M : Mem} {e : Expr} {f : EF} {pos p p2 : Pos}
theorem fe_isi {T : Str} {Tn : String} (hg : Gl X "isinstance") (hm : X.mg "isinstance" = none) (hgT : Gl X T) (hmT : X.mg T = none) (hv : bootBuiltins T = some (.type Tn)) (he : FK X M e f) (hn : T ≠ "__name__" := by decide) (hdb : (T == ("__debug__" : Str)) = false := by decide)
    (hs1 : starEach [e, .Name T p2] X.env = (false, eval e X.env) :: starEach [.Name T p2] X.env := by rfl) (hs2 : starEach [.Name T p2] X.env = (false, eval (.Name T p2) X.env) :: starEach [] X.env := by rfl) (hpl : (backTo pos (starEach [.Name T p2] X.env)).any (·.1) = false := by rfl) : FE X M (.Call (.Name "isinstance" p) [e, .Name T p2] [] pos) (c1 (isiD Tn) f) :=
  PE.imp (pe_callB call_isi hg hm (by decide +kernel) (pa_cons he (pa_cons (pe_bltn hgT hmT hv (v := .ty Tn) rfl hn hdb) pa_nil hs2) hs1) (by decide) (by decide) hs1 hpl) fun σ H Q q => by
    obtain ⟨H0, av0, av, ρ, d, c, e, k⟩ := q
    obtain ⟨x, e1, e⟩ := bind_some e
    refine ⟨H0, av0, av, ρ, x, c, e1, fun v H1 k1 b1 => ?_⟩
    obtain ⟨b, rfl, hb⟩ := isi_kit e
    refine ⟨v, _, _, _, b, rfl, .ty _, Br.ty b1 (fun kk z => ?_), kit_ty hb, k _ _ k1 (.bl _)⟩
    subst z
    cases e
end
end G

namespace G
open PySem PySem.Spec PyProof.Rows L2

/-! ## the module -/
/-- the built-ins keep their names -/
structure Bt (mg : Str → Option Value) : Prop where
  len : mg "len" = none
  tuple : mg "tuple" = none
  list : mg "list" = none
  sum : mg "sum" = none
  max : mg "max" = none
  min : mg "min" = none
  all : mg "all" = none
  any : mg "any" = none
  abs : mg "abs" = none
  int : mg "int" = none
  bool : mg "bool" = none
  str : mg "str" = none
  set : mg "set" = none
  sorted : mg "sorted" = none
  range : mg "range" = none
  enumerate : mg "enumerate" = none
  zip : mg "zip" = none
  isinstance : mg "isinstance" = none
  repr : mg "repr" = none
  ve : mg "ValueError" = none
/-- a def stands in the module, and is the function F of n arguments -/
structure Cal (P : Program) (w : World) (K : PySem.W.Frag) (mg : Str → Option Value) (base : Heap) (M : Mem) (x : Str) (k n : Nat) (F : List D → Option D) : Prop where
  ex : ∃ f fd ps, mg x = some (.ref f) ∧ PySem.W.keepIn K (.ref f) = true ∧ Binds K fd ps [] ∧ FnOk P w K mg base CX0 k f fd ps (spF K M n F)
theorem u64 {k : Nat} {A : Around} (r : Room k A) : A.units + 64 < cLine := by have := r.un; omega
theorem u65 {k : Nat} {A : Around} (r : Room k A) : A.units + 65 < cLine := by have := r.un; omega
def cArgs (n : Nat) (r : LF) : LF := fun ρ => (r ρ).bind fun ds => if ds.length = n then some ds else none
section
variable {X : Cx} {M : Mem} {e : Expr} {pos : Pos}
theorem fe_cal {k n j : Nat} {F : List D → Option D} {x : Str} {p : Pos} {es : List Expr} {r : LF} (C : Cal X.prog X.w X.K X.mg X.base M x k n F) (hr : Room j X.A) (hk : k ≤ j) (hg : Gl X x)
    (ha : FA X M (e :: es) r) (hn : (e :: es).length = n := by rfl) (hdb : (x == ("__debug__" : Str)) = false := by decide) (he : starEach (e :: es) X.env = (false, eval e X.env) :: starEach es X.env := by rfl) (hpl : (backTo pos (starEach es X.env)).any (·.1) = false := by rfl) :
    FE X M (.Call (.Name x p) (e :: es) [] pos) (cCall F (cArgs n r)) := by
  obtain ⟨f, fd, ps, h1, h2, h3, h4⟩ := C.ex
  exact fe_call h4 (hr.mono hk) hg h1 h2 h3 ha hn hdb he hpl
theorem fe_cal0 {k j : Nat} {F : List D → Option D} {x : Str} {p : Pos} (C : Cal X.prog X.w X.K X.mg X.base M x k 0 F) (hr : Room j X.A) (hk : k ≤ j) (hg : Gl X x) (hdb : (x == ("__debug__" : Str)) = false := by decide) :
    FE X M (.Call (.Name x p) [] [] pos) (cCall F cNil) := by
  obtain ⟨f, fd, ps, h1, h2, h3, h4⟩ := C.ex
  exact fe_call0 h4 (hr.mono hk) hg h1 h2 h3 hdb
/-- a constant of the module -/
theorem fe_gint {x : Str} {i : Int} {p : Pos} (hg : Gl X x) (hm : ∃ t, X.mg x = some (.int i t)) (hd : (x == ("__debug__" : Str)) = false := by decide) : FE X M (.Name x p) (cC (.int i)) := by
  obtain ⟨t, hm⟩ := hm
  exact fe_const (pe_glob (v := .int i) hg hm ⟨t, rfl⟩ hd) fun _ _ => .int i
theorem fe_gstr {x y : Str} {p : Pos} (hg : Gl X x) (hm : ∃ t, X.mg x = some (.str y t)) (hd : (x == ("__debug__" : Str)) = false := by decide) : FE X M (.Name x p) (cC (.str y)) := by
  obtain ⟨t, hm⟩ := hm
  exact fe_const (pe_glob (v := .str y) hg hm ⟨t, rfl⟩ hd) fun _ _ => .str y
/-- a, b = x, y of plain local names -/
def cPar (i j : Nat) (r : LF) : SF := fun ρ => (r ρ).bind fun ds => match ds with
  | [d, e] => some (.nx ((ρ.set i (.va d)).set j (.va e)))
  | _ => none
theorem fs_par {i j : Nat} {st : Stmt} {r : LF} (h : PS X st (tPar i j (tA X.K M r))) : FS X M st (cPar i j r) := PS.imp h fun Dn σ H q => by
  obtain ⟨H0, av0, av, ρ, o, c, e, k⟩ := q
  obtain ⟨ds, e1, e⟩ := bind_some e
  split at e
  · cases e
    refine ⟨H0, av0, av, ρ, _, c, e1, fun vs H1 k1 b1 => ?_⟩
    cases b1 with
    | cons b1 r1 =>
      cases r1 with
      | cons b2 r2 =>
        cases r2
        exact ⟨_, _, rfl, Aft.now k k1 (((c.mono k1).setVa b1).setVa b2)⟩
  · cases e
end
/-- a def of the text, as a Cal -/
theorem cal_of {P : Program} {w : World} {K : PySem.W.Frag} {mg : Str → Option Value} {base : Heap} {M : Mem} {x qual : Str} {st : Stmt} {f : Addr} {fd : FuncData} {ps : List Str} {k n : Nat} {F : List D → Option D} (Fn : Fun K x qual st f fd) (g : mg x = some (.ref f)) (b : Binds K fd ps []) (ok : FnOk P w K mg base CX0 k f fd ps (spF K M n F)) : Cal P w K mg base M x k n F :=
  ⟨f, fd, ps, g, Fn.kp, b, ok⟩
theorem law_start {K : PySem.W.Frag} {M : Mem} {F : List D → Option D} {H : Hp} {a : Addr} {ns : List Int} (ho : Only H) (hS : SqL K H a (ns.map V.int)) (gl : GL K M H) (h : F [scrD ns] = some (.bool true)) : spF K M 1 F [.ref a] H (fun v _ => v = .bl true) fun _ _ _ => False := by
  refine ⟨noA, [scrD ns], .bool true, rfl, .cons (.scr ?_) .nil, fun _ z => z.elim, gl, h, fun v H' k b => by cases b; rfl⟩
  rcases hS with h | h
  · rcases h with h | h
    · rcases ho a with z | ⟨o, xs, z⟩
      · rw [z] at h; cases h
      · rw [z] at h; cases h
    · exact .inl h
  · exact .inr (.inr h)
def noM : Mem := fun _ _ _ => False
theorem noM_ok : MemOk noM := fun _ _ _ _ _ h => h
theorem noM_w : MemW noM := fun _ _ _ _ _ _ _ h => h
end G

namespace G
open PySem PySem.Spec PyProof.Rows L2

/-! ## ranges downwards -/
def rcL (lo c : Int) (n : Nat) : List D := (List.range n).map fun i => .int (lo + (i : Nat) * c)
theorem wk_rangeC {K : PySem.W.Frag} {M : Mem} {av : Av} {H' : Hp} (lo c : Int) (n : Nat) : Wk K M av (Itc lo c n) H' (rcL lo c n) := by
  intro i av' H2 s hd k
  refine ⟨fun d e => ?_, fun e => ?_⟩
  · have hi : i < n := by
      have := (List.getElem?_eq_some_iff.mp e).1
      simpa [rcL] using this
    refine ⟨hi, fun x H3 y => ?_⟩
    obtain ⟨rfl, rfl⟩ := y
    have e' : d = .int (lo + (i : Nat) * c) := by
      unfold rcL at e
      rw [List.getElem?_map, List.getElem?_range hi] at e
      exact (Option.some.inj e).symm
    rw [e']
    exact ⟨Kp.refl, .int _⟩
  · have := List.getElem?_eq_none_iff.mp e
    show n ≤ i
    simpa [rcL] using this
/-- range(a, b, -1) -/
def cRg3 (f h l : EF) : LF := fun ρ => (f ρ).bind fun d => (h ρ).bind fun e => (l ρ).bind fun k => match d, e, k with
  | .int m, .int n, .int c => if -(2 ^ 62) ≤ m ∧ m < 2 ^ 62 ∧ -(2 ^ 62) ≤ n ∧ n < 2 ^ 62 ∧ c = -1 then some (rcL m (-1) (m - n).toNat) else none
  | _, _, _ => none
section
variable {X : Cx} {M : Mem} {tg e e2 e3 : Expr} {f h l : EF} {pos : Pos}
theorem fi_range3 {p : Pos} (hg : Gl X "range") (hm : X.mg "range" = none) (ha : FE X M e f) (hb : FE X M e2 h) (hc : FE X M e3 l)
    (hs : starEach [e, e2, e3] X.env = (false, eval e X.env) :: starEach [e2, e3] X.env := by rfl) (hs2 : starEach [e2, e3] X.env = (false, eval e2 X.env) :: starEach [e3] X.env := by rfl) (hs3 : starEach [e3] X.env = (false, eval e3 X.env) :: starEach [] X.env := by rfl) (hpl : (backTo pos (starEach [e2, e3] X.env)).any (·.1) = false := by rfl) :
    FI X M tg (.Call (.Name "range" p) [e, e2, e3] [] pos) (cRg3 f h l) :=
  PI.imp (pi_range3 hg hm (fa_cons ha (fa_cons hb (fa_cons hc fa_nil hs3) hs2) hs) hs hpl) fun σ H R q => by
    obtain ⟨H0, av0, av, ρ, ds, c, e, k⟩ := q
    obtain ⟨d, e1, e⟩ := bind_some e
    obtain ⟨d2, e2, e⟩ := bind_some e
    obtain ⟨d3, e3, e⟩ := bind_some e
    split at e
    · split at e
      · rename_i hb
        cases e
        obtain ⟨b1, b2, b3, b4, rfl⟩ := hb
        refine ⟨H0, av0, av, ρ, _, c, (by unfold cCons cNil; rw [e1, e2, e3]; rfl), fun vs H1 k1 b => ?_⟩
        · cases b with
          | cons x1 r =>
            cases r with
            | cons x2 r =>
              cases r with
              | cons x3 r =>
                cases r
                cases x1
                cases x2
                cases x3
                exact ⟨_, _, -1, _, rfl, RgC.neg b1 b2 b3 b4, k _ _ k1 (wk_rangeC _ _ _)⟩
      · cases e
    · cases e
end

/-! ## a dict of the module, ints to ints -/
def EntI : List DictEntry → List (Int × Int) → Prop
  | [], [] => True
  | e :: r, (k, v) :: t => (∃ t1, e.key = .int k t1) ∧ e.hash = hashInt k ∧ (∃ t2, e.val = .int v t2) ∧ EntI r t
  | _, _ => False
def KTab (K : PySem.W.Frag) (a : Addr) (tab : List (Int × Int)) : Prop := ∃ es n, K.lookup a = some ⟨.type "dict", none, .dict es n, #[]⟩ ∧ EntI es.toList tab
theorem ktab_of {K : PySem.W.Frag} {a : Addr} {o : Obj} {es : Array DictEntry} {n : Nat} {tab : List (Int × Int)} (h : K.lookup a = some o) (ho : o = ⟨.type "dict", none, .dict es n, #[]⟩) (he : EntI es.toList tab) : KTab K a tab := ⟨es, n, by rw [h, ho], he⟩
def kdD (tab : List (Int × Int)) : D → Option D
  | .int k => (tab.lookup k).bind fun v => some (.int v)
  | _ => none
theorem entI_n : EntI [] [] := trivial
theorem entI_c {e : DictEntry} {r : List DictEntry} {k v : Int} {t : List (Int × Int)} (h1 : ∃ t1, e.key = .int k t1) (h2 : e.hash = hashInt k) (h3 : ∃ t2, e.val = .int v t2) (h4 : EntI r t) : EntI (e :: r) ((k, v) :: t) := ⟨h1, h2, h3, h4⟩
theorem entI_keys : ∀ {es : List DictEntry} {tab : List (Int × Int)}, EntI es tab → ∀ e ∈ es, ∃ k t, e.key = .int k t ∧ e.hash = hashInt k
  | e :: r, (k, v) :: t, h, x, hx => by
    rcases List.mem_cons.mp hx with rfl | hx
    · obtain ⟨t1, h1⟩ := h.1
      exact ⟨k, t1, h1, h.2.1⟩
    · exact entI_keys h.2.2.2 x hx
theorem entI_find : ∀ {es : List DictEntry} {tab : List (Int × Int)} {k v : Int}, EntI es tab → tab.lookup k = some v → ∃ t, (es.find? fun e => Value.isInt k e.key).map (·.val) = some (.int v t)
  | e :: r, (k', v') :: t, k, v, h, hl => by
    obtain ⟨⟨t1, h1⟩, h2, ⟨t2, h3⟩, h4⟩ := h
    rw [List.lookup_cons] at hl
    by_cases hk : k = k'
    · subst hk
      rw [beq_self_eq_true] at hl
      cases hl
      refine ⟨t2, ?_⟩
      rw [List.find?_cons_of_pos (by rw [h1]; simp [Value.isInt])]
      simp [h3]
    · have : (k == k') = false := beq_eq_false_iff_ne.mpr hk
      rw [this] at hl
      obtain ⟨t3, ih⟩ := entI_find h4 hl
      refine ⟨t3, ?_⟩
      rw [List.find?_cons_of_neg (by rw [h1]; simp [Value.isInt]; exact fun z => hk z.symm)]
      exact ih
  | [], _ :: _, _, _, h, _ => h.elim
  | _ :: _, [], _, _, h, _ => h.elim
  | [], [], _, _, _, hl => by cases hl
section
variable {X : Cx} {M : Mem} {b : Expr} {f h : EF} {pos p : Pos}
theorem ix_ktab {tab : List (Int × Int)} : IxR X (fun x y H Q => ∃ a k v, x = .ref a ∧ y = .int k ∧ KTab X.K a tab ∧ tab.lookup k = some v ∧ Q (.int v) H) := by
  intro value slice pins s σ H x y v u Q I rx ry h hs
  obtain ⟨a, k, r, rfl, rfl, ⟨es, n, hl, he⟩, e, q⟩ := h
  obtain rfl : v = Value.ref a := rx
  obtain ⟨t, rfl⟩ := ry
  obtain ⟨t3, hf⟩ := entI_find he e
  have hm : s.heap.MapOf (PySem.intKind X.prog X.w) a (fun k => findBy Value.isInt es k) :=
    ⟨_, es, n, I.kIn _ _ hl, ⟨rfl, rfl, rfl⟩, rfl, fun e he' => by
      obtain ⟨x, t, e1, e2⟩ := entI_keys he e (Array.mem_toList_iff.mpr he')
      exact ⟨x, by rw [e1]; exact intKind_is X.prog X.w x t, e2⟩, fun _ => rfl⟩
  have hv : findBy Value.isInt es k = some (.int r t3) := by
    obtain ⟨l⟩ := es
    unfold findBy
    rw [List.find?_toArray]
    exact hf
  exact tail_any hm.typeIs slot_dict_getitem.lookup (wpAny_getItem_of (intKind_is X.prog X.w k t) hm hv ⟨.int r, H, I.tok _, ⟨_, rfl⟩, q⟩) hs
theorem fe_kdict {x : Str} {tab : List (Int × Int)} (hg : Gl X x) (hm : ∃ a, X.mg x = some (.ref a) ∧ KTab X.K a tab) (hb : FE X M b h) (hs : PlainIx b := by exact fun _ _ => rfl) (hd : (x == ("__debug__" : Str)) = false := by decide) : FE X M (.Subscript (.Name x p) b pos) (c1 (kdD tab) h) := by
  obtain ⟨a, hm, ht⟩ := hm
  refine PE.imp (pe_ix (ix_ktab (tab := tab)) (pe_glob (v := .ref a) hg hm rfl hd) hb hs) fun σ H Q q => ?_
  obtain ⟨H0, av0, av, ρ, d, c, e, k⟩ := q
  obtain ⟨y, e1, e⟩ := bind_some e
  refine ⟨H0, av0, av, ρ, y, c, e1, fun v H1 k1 b1 => ?_⟩
  unfold kdD at e
  split at e
  · obtain ⟨r, e2, e⟩ := bind_some e
    cases e
    cases b1
    exact ⟨a, _, r, rfl, rfl, ht, e2, k _ _ k1 (.int _)⟩
  · cases e
end

/-! ## len(set(..)) of ints -/
def lensetD : D → Option D
  | .list ds => (intsD ds).bind fun ns => if ns.length ≤ 1000 then some (.int ns.eraseDups.length) else none
  | _ => none
section
variable {X : Cx} {M : Mem} {a : Expr} {f : EF} {pos p p2 q : Pos}
theorem fe_lenset (hM : MemOk M) (hc : X.calm = true) (hu : X.A.units + 65 < cLine) (hg : Gl X "len") (hm : X.mg "len" = none) (hg2 : Gl X "set") (hm2 : X.mg "set" = none) (ha : FK X M a f) (na : starEach [a] X.env = (false, eval a X.env) :: starEach [] X.env := by rfl) :
    FE X M (.Call (.Name "len" p) [.Call (.Name "set" p2) [a] [] q] [] pos) (c1 lensetD f) := by
  refine ⟨fun pins s σ H Q I h => ?_⟩
  obtain ⟨H0, av0, av, ρ, d, c, e, k⟩ := h
  obtain ⟨x, e1, e⟩ := bind_some e
  refine Call_ (ld_blt I hg hm PySem.boot_len ?_)
  refine PyProof.Rows.callWith_builtin1 (PyProof.Rows.args_cons ?_ rfl) rfl rfl
  refine Call_ (ld_blt I hg2 hm2 PyProof.Rows.boot_set ?_)
  refine PyProof.Rows.callWith_type1 (PyProof.Rows.args_cons (thn (ha.run pins s σ H _ I ⟨H0, av0, av, ρ, x, c, e1, fun v H1 k1 b1 => (⟨k1, b1⟩ : Kp M noA H H1 ∧ BrK X.K M av H1 v x)⟩) fun v s1 ⟨y, H1, I1, r1, q1⟩ => PyProof.Rows.args_nil ?_) na) na rfl
  obtain ⟨k1, b1⟩ := q1
  unfold lensetD at e
  split at e
  · obtain ⟨ns, e2, e⟩ := bind_some e
    split at e
    · rename_i hl
      cases e
      obtain ⟨l, vs, rfl, hx, r⟩ := b1.list
      rw [ints_of e2] at r
      have ev := r.of_ints
      subst ev
      cases r1
      obtain ⟨its, rv, pl, hz⟩ := I1.list (SqL.of hx)
      have hlen : its.toArray.size = ns.length := by rw [List.size_toArray, ← rv.length, List.length_map]
      refine call_set_list (I1.ok.hd hc) pl.isList (ns := ns) (by simpa using rv.ints) (by rw [hlen]; unfold scanBound; omega) fun h' tk hS hk => ?_
      rw [hlen] at hS
      refine PyProof.Rows.args_nil ?_
      have e4 : (PyProof.Rows.firstMet (fun i => ns.getD i 0) ns.length).length = ns.eraseDups.length := by rw [PySem.W.oss_met, PySem.W.oss_dups]
      obtain ⟨o, es, ep, t, ho, hex, hd, _, _, _, hf, hn⟩ := hS
      rw [e4] at hn
      have hle : ns.eraseDups.length ≤ 1000 := by
        have := PySem.W.oss_len ns
        rw [PySem.W.oss_dups] at this
        omega
      have I2 : Inv X pins σ H1 { s1 with heap := h', toks := tk } := I1.kept fun b o e => hk b o (Heap.lt_size e) e
      exact call_len_set ho hex hd hf (by rw [hn]; omega) ⟨.int ns.eraseDups.length, H1, I2.tok _, ⟨_, by rw [hn]⟩, k _ _ k1 (.int _)⟩
    · cases e
  · cases e
end

/-! ## sorted of ints -/
def isort (ns : List Int) : List Int := ns.mergeSort fun a b => decide (a ≤ b)
theorem isort_of {ns ms : List Int} (h : ms.Perm ns) (hs : ms.Pairwise (· ≤ ·)) : ms = isort ns := by
  have h1 : (isort ns).Perm ns := List.mergeSort_perm _ _
  have h2 : (isort ns).Pairwise (fun a b => (decide (a ≤ b)) = true) := List.pairwise_mergeSort (fun a b c h1 h2 => by simp at *; omega) (fun a b => by simp; omega) ns
  refine List.Perm.eq_of_pairwise (le := fun a b => a ≤ b) ?_ hs (h2.imp fun h => by simpa using h) (h.trans h1.symm)
  intro a b _ _ x y
  exact Int.le_antisymm x y

/-! ## max, min -/
theorem foldl_max : ∀ (n : Int) (r : List Int), r.foldl max n ∈ n :: r ∧ ∀ y ∈ n :: r, y ≤ r.foldl max n
  | n, [] => ⟨List.mem_cons_self, fun y hy => by simp at hy; rw [hy]; exact Int.le_refl _⟩
  | n, k :: r => by
    obtain ⟨h1, h2⟩ := foldl_max (max n k) r
    show r.foldl max (max n k) ∈ _ ∧ ∀ y ∈ _, y ≤ r.foldl max (max n k)
    refine ⟨?_, fun y hy => ?_⟩
    · rcases List.mem_cons.mp h1 with h | h
      · rw [h]
        rcases Int.le_total n k with z | z
        · rw [Int.max_eq_right z]; exact List.mem_cons_of_mem _ List.mem_cons_self
        · rw [Int.max_eq_left z]; exact List.mem_cons_self
      · exact List.mem_cons_of_mem _ (List.mem_cons_of_mem _ h)
    · have h3 := h2 (max n k) List.mem_cons_self
      rcases List.mem_cons.mp hy with rfl | hy
      · omega
      · rcases List.mem_cons.mp hy with rfl | hy
        · omega
        · exact h2 y (List.mem_cons_of_mem _ hy)
theorem foldl_min : ∀ (n : Int) (r : List Int), r.foldl min n ∈ n :: r ∧ ∀ y ∈ n :: r, r.foldl min n ≤ y
  | n, [] => ⟨List.mem_cons_self, fun y hy => by simp at hy; rw [hy]; exact Int.le_refl _⟩
  | n, k :: r => by
    obtain ⟨h1, h2⟩ := foldl_min (min n k) r
    show r.foldl min (min n k) ∈ _ ∧ ∀ y ∈ _, r.foldl min (min n k) ≤ y
    refine ⟨?_, fun y hy => ?_⟩
    · rcases List.mem_cons.mp h1 with h | h
      · rw [h]
        rcases Int.le_total n k with z | z
        · rw [Int.min_eq_left z]; exact List.mem_cons_self
        · rw [Int.min_eq_right z]; exact List.mem_cons_of_mem _ List.mem_cons_self
      · exact List.mem_cons_of_mem _ (List.mem_cons_of_mem _ h)
    · have h3 := h2 (min n k) List.mem_cons_self
      rcases List.mem_cons.mp hy with rfl | hy
      · omega
      · rcases List.mem_cons.mp hy with rfl | hy
        · omega
        · exact h2 y (List.mem_cons_of_mem _ hy)
theorem DpInts (K : PySem.W.Frag) (H : Hp) : ∀ ns : List Int, DpAll K H (ns.map V.int) (ns.map PyData.int)
  | [] => .nil
  | n :: r => .cons (.int n) (DpInts K H r)
theorem alike_ints (ns : List Int) : PySem.W.AlikeAll (ns.map PyData.int) := by
  refine ⟨fun x hx y hy => ?_, fun x hx => ?_⟩
  · obtain ⟨a, _, rfl⟩ := List.mem_map.mp hx
    obtain ⟨b, _, rfl⟩ := List.mem_map.mp hy
    simp [PySem.W.alike]
  · obtain ⟨a, _, rfl⟩ := List.mem_map.mp hx
    exact fun z => nomatch z
theorem depth_ints : ∀ ns : List Int, PyData.depthAll (ns.map PyData.int) = 0
  | [] => by simp [PyData.depthAll]
  | n :: r => by
    rw [List.map_cons, PyData.depthAll, depth_ints r]
    simp [PyData.depth]
def maxL (ns : List Int) : Option Int := ns.find? fun m => ns.all fun y => decide (y ≤ m)
def minL (ns : List Int) : Option Int := ns.find? fun m => ns.all fun y => decide (m ≤ y)
def maxD : List D → Option D
  | [.list ds] => (intsD ds).bind fun ns => (maxL ns).bind fun m => some (.int m)
  | [.tuple ds] => (intsD ds).bind fun ns => (maxL ns).bind fun m => some (.int m)
  | [.int i, .int j] => some (.int (if j > i then j else i))
  | _ => none
def minD : List D → Option D
  | [.list ds] => (intsD ds).bind fun ns => (minL ns).bind fun m => some (.int m)
  | [.tuple ds] => (intsD ds).bind fun ns => (minL ns).bind fun m => some (.int m)
  | [.int i, .int j] => some (.int (if j < i then j else i))
  | _ => none
section
variable {X : Cx} {M : Mem}
theorem maxL_some {ns : List Int} {m : Int} (h : maxL ns = some m) : m ∈ ns ∧ ∀ y ∈ ns, y ≤ m := by
  unfold maxL at h
  refine ⟨List.mem_of_find?_eq_some h, ?_⟩
  have := List.find?_some h
  simpa using this
theorem minL_some {ns : List Int} {m : Int} (h : minL ns = some m) : m ∈ ns ∧ ∀ y ∈ ns, m ≤ y := by
  unfold minL at h
  refine ⟨List.mem_of_find?_eq_some h, ?_⟩
  have := List.find?_some h
  simpa using this
theorem c_max (hc : X.calm = true) (hu : X.A.units + 65 < cLine) : CallR X (.builtin "max") (rC X.K M maxD) := by
  intro pins s σ H xs us Q I r h
  obtain ⟨av, ds, z, b, hd, g, k⟩ := h
  unfold maxD at g
  split at g
  · obtain ⟨ns, e1, g⟩ := bind_some g
    obtain ⟨m, e2, g⟩ := bind_some g
    cases g
    obtain ⟨v, rfl, b1⟩ := one_k b
    obtain ⟨a, vs, rfl, ha, r1⟩ := b1.list
    rw [ints_of e1] at r1
    have e := r1.of_ints
    subst e
    obtain ⟨h1, h2⟩ := maxL_some e2
    refine cr_max hc pins s σ H _ us Q I r ⟨a, ns, rfl, SqL.of ha, List.length_pos_of_mem h1, fun m' h3 h4 => ?_⟩
    have : m' = m := Int.le_antisymm (h2 m' h3) (h4 m h1)
    subst this
    exact k _ _ Kp.refl (.int _)
  · obtain ⟨ns, e1, g⟩ := bind_some g
    obtain ⟨m, e2, g⟩ := bind_some g
    cases g
    obtain ⟨v, rfl, b1⟩ := one_k b
    obtain ⟨a, vs, rfl, ha, r1⟩ := b1.tuple
    rw [ints_of e1] at r1
    have e := r1.of_ints
    subst e
    obtain ⟨h1, h2⟩ := maxL_some e2
    obtain ⟨its, rv, pt, hz⟩ := I.tuple (SqT.of ha)
    have hd := DpInts X.K H ns
    obtain ⟨as, hr⟩ := Dp.readsAll I _ _ its hd rv
    rw [Vals.ref1 r]
    cases ns with
    | nil => cases h1
    | cons n ns =>
      refine PySem.W.max_tuple_data (I.ok.hd hc) (show s.heap.IsTuple a its.toArray from pt) (by simpa using hr) (alike_ints (n :: ns)) (by have z := depth_ints (n :: ns); rw [List.map_cons] at z; rw [z]; omega) fun i v h' tk bs hv hR hk => ?_
      rw [PySem.W.maxD_ints] at hR
      cases hR
      obtain ⟨q1, q2⟩ := foldl_max n ns
      have em : ns.foldl max n = m := Int.le_antisymm (h2 _ q1) (q2 m h1)
      rw [em] at *
      exact ⟨.int m, H, I.kept fun b o e => hk b o e, ⟨_, rfl⟩, k _ _ Kp.refl (.int _)⟩
  · cases g
    obtain ⟨v, w, rfl, b1, b2⟩ := two_k b
    exact call_max2 hc pins s σ H _ us Q I r ⟨_, _, by rw [b1.int_, b2.int_], k _ _ Kp.refl (.int _)⟩
  · cases g
theorem c_min (hc : X.calm = true) (hu : X.A.units + 65 < cLine) : CallR X (.builtin "min") (rC X.K M minD) := by
  intro pins s σ H xs us Q I r h
  obtain ⟨av, ds, z, b, hd, g, k⟩ := h
  unfold minD at g
  split at g
  · obtain ⟨ns, e1, g⟩ := bind_some g
    obtain ⟨m, e2, g⟩ := bind_some g
    cases g
    obtain ⟨v, rfl, b1⟩ := one_k b
    obtain ⟨a, vs, rfl, ha, r1⟩ := b1.list
    rw [ints_of e1] at r1
    have e := r1.of_ints
    subst e
    obtain ⟨h1, h2⟩ := minL_some e2
    refine cr_min hc pins s σ H _ us Q I r ⟨a, ns, rfl, SqL.of ha, List.length_pos_of_mem h1, fun m' h3 h4 => ?_⟩
    have : m' = m := Int.le_antisymm (h4 m h1) (h2 m' h3)
    subst this
    exact k _ _ Kp.refl (.int _)
  · obtain ⟨ns, e1, g⟩ := bind_some g
    obtain ⟨m, e2, g⟩ := bind_some g
    cases g
    obtain ⟨v, rfl, b1⟩ := one_k b
    obtain ⟨a, vs, rfl, ha, r1⟩ := b1.tuple
    rw [ints_of e1] at r1
    have e := r1.of_ints
    subst e
    obtain ⟨h1, h2⟩ := minL_some e2
    obtain ⟨its, rv, pt, hz⟩ := I.tuple (SqT.of ha)
    have hd := DpInts X.K H ns
    obtain ⟨as, hr⟩ := Dp.readsAll I _ _ its hd rv
    rw [Vals.ref1 r]
    cases ns with
    | nil => cases h1
    | cons n ns =>
      refine PySem.W.min_tuple_data (I.ok.hd hc) (show s.heap.IsTuple a its.toArray from pt) (by simpa using hr) (alike_ints (n :: ns)) (by have z := depth_ints (n :: ns); rw [List.map_cons] at z; rw [z]; omega) fun i v h' tk bs hv hR hk => ?_
      rw [PySem.W.minD_ints] at hR
      cases hR
      obtain ⟨q1, q2⟩ := foldl_min n ns
      have em : ns.foldl min n = m := Int.le_antisymm (q2 m h1) (h2 _ q1)
      rw [em] at *
      exact ⟨.int m, H, I.kept fun b o e => hk b o e, ⟨_, rfl⟩, k _ _ Kp.refl (.int _)⟩
  · cases g
    obtain ⟨v, w, rfl, b1, b2⟩ := two_k b
    exact call_min2 hc pins s σ H _ us Q I r ⟨_, _, by rw [b1.int_, b2.int_], k _ _ Kp.refl (.int _)⟩
  · cases g
end
theorem maxL_of {ns : List Int} {m : Int} (h1 : m ∈ ns) (h2 : ∀ y ∈ ns, y ≤ m) : maxL ns = some m := by
  unfold maxL
  cases e : ns.find? fun m => ns.all fun y => decide (y ≤ m) with
  | none =>
    have := List.find?_eq_none.mp e m h1
    exact absurd (by simpa using h2) (by simpa using this)
  | some m' =>
    obtain ⟨q1, q2⟩ := maxL_some e
    rw [Int.le_antisymm (h2 m' q1) (q2 m h1)]
theorem minL_of {ns : List Int} {m : Int} (h1 : m ∈ ns) (h2 : ∀ y ∈ ns, m ≤ y) : minL ns = some m := by
  unfold minL
  cases e : ns.find? fun m => ns.all fun y => decide (m ≤ y) with
  | none =>
    have := List.find?_eq_none.mp e m h1
    exact absurd (by simpa using h2) (by simpa using this)
  | some m' =>
    obtain ⟨q1, q2⟩ := minL_some e
    rw [Int.le_antisymm (q2 m h1) (h2 m' q1)]
end G

namespace G
open PySem PySem.Spec PyProof.Rows L2

/-! ## sorting, where the first key may be an empty tuple -/
section
open PySem.Calls PySem.SeqAt
variable {prog : Program} {w : World} {A : Around} {E : Value → Shared → Prop} {s : Shared}
theorem call_tuple_lt {Q : Value → Shared → Prop} {l b : Addr} {items items2 : Array Value} {e r : Nat → Bool} (hl : s.heap.IsTuple l items) (hb : s.heap.IsTuple b items2)
    (he : ∀ j (h1 : j < items.size) (h2 : j < items2.size), EqAt A.in1 s items[j] items2[j] (e j)) (hr : ∀ j (h1 : j < items.size) (h2 : j < items2.size), e j = false → RcLt A.in1 s items[j] items2[j] (r j))
    (h : Q (.bool (firstLt e r (decide (items.size < items2.size)) (List.range (min items.size items2.size)))) s) : wpAny (model prog w) A (call (.builtin "tuple.__lt__") [.ref l, .ref b]) Q E s := by
  obtain ⟨⟨cls, dd, data, sl⟩, ho, hc, n, hd⟩ := id hl
  obtain ⟨⟨cls2, dd2, data2, sl2⟩, ho2, hc2, n2, hd2⟩ := id hb
  simp only at hc hd hc2 hd2
  subst hc hd hc2 hd2
  exact call_meets F.slot_tuple_lt ⟨_, ho, rfl⟩ F.entry_tuple_lt (F.args_tuple_lt_2 _ _) (tuple_ltAt l b items items2 n n2 dd dd2 sl sl2 e r) ⟨ho, ho2, he, hr, h⟩
theorem oneLt_tup {xs ys : List PyData} {a b : Value} {as bs : List Addr} {Q : Bool → Shared → Prop} (ra : Reads s.heap a (.tuple xs) as) (rb : Reads s.heap b (.tuple ys) bs) (h : PySem.W.alike (.tuple xs) (.tuple ys) = true)
    (hu : A.units + min (PyData.tuple xs).depth (PyData.tuple ys).depth < cLine) (hq : Q (PySem.W.dataLt (.tuple xs) (.tuple ys)) s) : wpAny (model prog w) A (PyProof.Rows.oneLt' true a b) Q E s := by
  have hal : PySem.W.alikeAll xs ys = true := by simpa [PySem.W.alike] using h
  cases ra with
  | @tuple l o vs n _ as₁ h1 h2 h3 h4 =>
    cases rb with
    | @tuple l' o' vs' n' _ bs₁ k1 k2 k3 k4 =>
      have n1 : vs.size = xs.length := by simpa using ReadsAll.length _ _ _ h4
      have n2 : vs'.size = ys.length := by simpa using ReadsAll.length _ _ _ k4
      rw [PySem.W.dataLt_tuple, ← PySem.W.firstLt_toks xs ys hal, ← n1, ← n2] at hq
      rw [PyProof.Rows.oneLt'_eq]
      simp only [if_true]
      refine wpAny_bind (wpAny_cRoomFor (room_here hu) ?_)
      refine wpAny_bind (wpAny_callSpecialIfBound?_slot (T := "tuple") ⟨_, h1, h2⟩ F.slot_tuple_lt (call_tuple_lt (e := pairEq xs ys) (r := fun j => PySem.W.dataLt (xs.getD j .none) (ys.getD j .none)) ⟨_, h1, h2, _, h3⟩ ⟨_, k1, k2, _, k3⟩ (fun j j1 j2 => ?_) (fun j j1 j2 hj => ?_) ?_))
      · have := PySem.W.eqAt_alikeAll xs ys A.in1 s vs.toList vs'.toList _ _ h4 k4 hal (room_in hu) j (by simpa using j1) (by simpa using j2)
        simpa using this
      · have := PySem.W.rcLt_alikeAll xs ys A.in1 s vs.toList vs'.toList _ _ h4 k4 hal (room_in hu) j (by simpa using j1) (by simpa using j2) hj
        simpa using this
      · exact wpAny_truthy_bool hq
/-- the first items of tuples, where the first is empty -/
theorem firsts_tup {M : Model} {E : Value → Shared → Prop} : ∀ {vs : List Value} {ds : List PyData} {Q : List (Option Value) → Shared → Prop}, PySem.W.EachIs (fun v d => ∃ as, Reads s.heap v d as) vs ds → (∀ d ∈ ds, ∃ xs, d = .tuple xs) →
    (∀ fs, fs.length = vs.length → (∀ r, ds = .tuple [] :: r → fs[0]? = some none) → Q fs s) → wpAny M A (vs.mapM firstOfTuple') Q E s
  | _, _, Q, .nil, _, h => by
    rw [List.mapM_nil]
    exact wpAny_pure (h [] rfl fun r e => nomatch e)
  | _, _, Q, .cons (b := d) ⟨as, r⟩ t, ht, h => by
    obtain ⟨xs, rfl⟩ := ht d List.mem_cons_self
    rw [List.mapM_cons]
    refine wpAny_bind ?_
    cases r with
    | @tuple l o vs n _ as₁ h1 h2 h3 h4 =>
      rw [PySem.W.kas_first_eq]
      refine wpAny_bind (PySem.W.Looks.here (show PySem.W.Looks M s.heap (typeOf (.ref l)) o.cls from (PySem.W.Looks.ld h1).andThen .now) ?_)
      rw [h2, if_neg (by first | decide | simp)]
      refine wpAny_bind (PyProof.Rows.listItems_at h1 h3 (wpAny_pure ?_))
      refine wpAny_bind (firsts_tup (Q := fun bs s' => wpAny M A (pure (vs[0]? :: bs)) Q E s') t (fun d hd => ht d (List.mem_cons_of_mem _ hd)) fun fs hl _ => wpAny_pure (h _ (by simp [hl]) fun r e => ?_))
      cases e
      have n1 : vs.size = 0 := by simpa using ReadsAll.length _ _ _ h4
      rw [List.getElem?_cons_zero, Array.getElem?_eq_none (by omega)]
theorem SortsAt_empty {vs : List Value} {ds : List PyData} (e : PySem.W.EachIs (fun v d => ∃ as, Reads s.heap v d as) vs (.tuple [] :: ds)) (hal : PySem.W.AllAlike (.tuple [] :: ds)) (ht : ∀ d ∈ (PyData.tuple [] :: ds), ∃ xs, d = .tuple xs) (hu : ∀ d, d ∈ (PyData.tuple [] :: ds) → A.units + d.depth < cLine) :
    PySem.W.SortsAt prog w A s (PySem.W.dataKind s.heap (.tuple [] :: ds)) vs := by
  refine ⟨fun v hv => ?_, PyProof.Rows.oneType', ?_, fun h2 E Q hq => ?_⟩
  · obtain ⟨d, hd, as, r⟩ := e.left v hv
    exact ⟨_, PySem.W.dataKind_some hal hd r⟩
  · intro E x y a b Q ha hb hq
    obtain ⟨d, as, hd, ra, rfl⟩ := PySem.W.dataKind_inv ha
    obtain ⟨d', as', hd', rb, rfl⟩ := PySem.W.dataKind_inv hb
    have hdd := hal d hd d' hd'
    have hroom : A.units + min d.depth d'.depth < cLine := Nat.lt_of_le_of_lt (Nat.add_le_add_left (Nat.min_le_left _ _) _) (hu d hd)
    obtain ⟨xs, rfl⟩ := ht d hd
    obtain ⟨ys, rfl⟩ := ht d' hd'
    rw [PyProof.Rows.keyLt'_oneType]
    exact oneLt_tup ra rb hdd hroom hq
  · have hT : ∀ v ∈ vs, PySem.W.Looks (model prog w) s.heap (typeOf v) (Value.type "tuple") := fun v hv => by
      obtain ⟨d, hd, as, r⟩ := e.left v hv
      obtain ⟨xs, rfl⟩ := ht d hd
      exact PySem.W.looks_reads r
    rw [PyProof.Rows.keyKind'_eq, List.mapM_toArray, map_eq_pure_bind]
    refine wpAny_bind (wpAny_bind (firsts_tup e ht fun fs hl h0 => wpAny_pure ?_))
    have h00 : fs.toArray[0]? = some none := by rw [List.getElem?_toArray]; exact h0 ds rfl
    have hna : ¬ (fs.toArray.all fun x => x.isSome) = true := by
      intro z
      rw [List.all_toArray, List.all_eq_true] at z
      have m : (none : Option Value) ∈ fs := List.mem_of_getElem? (h0 ds rfl)
      exact absurd (z _ m) (by simp)
    rw [if_neg hna, h00]
    rw [if_neg (by simp)]
    obtain ⟨v₁, v₂, rest, rfl⟩ : ∃ v₁ v₂ rest, vs = v₁ :: v₂ :: rest := by
      match vs, h2 with
      | [], h2 => simp at h2
      | [_], h2 => simp at h2
      | v₁ :: v₂ :: rest, _ => exact ⟨v₁, v₂, rest, rfl⟩
    rw [PyProof.Rows.oneTypeOnly'_eq, List.mapM_toArray, map_eq_pure_bind]
    refine wpAny_bind (wpAny_bind (wpAny_bind (PySem.W.kas_mapM (r := Value.type "tuple") _ (fun v hv Q' hq => (hT v hv).here hq) (wpAny_pure ?_))))
    have hall : ((List.map (fun _ => Value.type "tuple") (v₁ :: v₂ :: rest)).toArray.all fun x => x == Value.type "tuple") = true := by
      simp only [List.all_toArray, List.all_map, List.all_eq_true]
      intro _ _
      rfl
    have hz : (List.map (fun _ => Value.type "tuple") (v₁ :: v₂ :: rest)).toArray[0]? = some (Value.type "tuple") := by simp
    rw [hz]
    simp only [hall, if_true]
    exact wpAny_pure (wpAny_pure hq)
end

def isTupD : D → Bool
  | .tuple _ => true
  | _ => false
/-- what may be sorted -/
def okSort (ds : List D) : Bool := PyData.canLayAll0 ds && (
  (ds.all fun a => ds.all fun b => PySem.W.alike a b) && (ds.all fun d => decide (d.depth ≤ 12)) &&
  ((ds.all fun d => match d with | .tuple (_ :: _) => true | _ => false) || (ds.all fun d => match d with | .tuple _ => false | .none => false | _ => true) ||
   (match ds with | .tuple [] :: _ => ds.all isTupD | _ => false)))
theorem okSort_of {ds : List D} (h : okSort ds = true) : PyData.canLayAll0 ds = true ∧ PySem.W.AllAlike ds ∧ (∀ d ∈ ds, d.depth ≤ 12) ∧ (PySem.W.Sortable ds ∨ ∃ r, ds = .tuple [] :: r ∧ ∀ d ∈ ds, ∃ xs, d = .tuple xs) := by
  unfold okSort at h
  rw [Bool.and_eq_true, Bool.and_eq_true, Bool.and_eq_true] at h
  obtain ⟨h0, ⟨h1, h2⟩, h3⟩ := h
  refine ⟨h0, fun d hd d' hd' => ?_, fun d hd => ?_, ?_⟩
  · rw [List.all_eq_true] at h1
    have := h1 d hd
    rw [List.all_eq_true] at this
    exact this d' hd'
  · rw [List.all_eq_true] at h2
    simpa using h2 d hd
  · rw [Bool.or_eq_true, Bool.or_eq_true] at h3
    rcases h3 with (h3 | h3) | h3
    · rw [List.all_eq_true] at h3
      refine .inl (.inl fun d hd => ?_)
      have := h3 d hd
      split at this
      · exact ⟨_, _, rfl⟩
      · cases this
    · rw [List.all_eq_true] at h3
      refine .inl (.inr fun d hd => ?_)
      have := h3 d hd
      split at this
      · cases this
      · cases this
      · rename_i n1 n2
        exact ⟨fun e => n2 e, fun xs e => n1 xs e⟩
    · split at h3
      · rename_i r
        refine .inr ⟨_, rfl, fun d hd => ?_⟩
        rw [List.all_eq_true] at h3
        have := h3 d hd
        unfold isTupD at this
        split at this
        · exact ⟨_, rfl⟩
        · cases this
      · cases h3
/-- sorted(xs) -/
def dsort (ds : List D) : List D := ds.mergeSort (PySem.W.dataLe false id)
def sortedD : List D → Option D
  | [.list ds] => if okSort ds = true then some (.list (dsort ds)) else none
  | [.tuple ds] => if okSort ds = true then some (.list (dsort ds)) else none
  | _ => none
section
variable {X : Cx} {M : Mem}
open PySem.Calls
theorem collect_seqC {prog : Program} {w : World} {A : Around} {E : Value → Shared → Prop} {s : Shared} {l : Addr} {T : String} {o : Obj} {vs : List Value} {n : Nat} {Q : List Value → Shared → Prop} (hT : T = "list" ∨ T = "tuple")
    (ho : s.heap.get? l = some o) (hc : o.cls = .type T) (hd : o.data = .seq vs.toArray n) (hsz : vs.length ≤ sizeLine)
    (h : Q vs { s with heap := (s.heap.push (seqObj "list" #[] 0)).update s.heap.objs.size (Obj.mapSeq (· ++ vs.toArray)) }) :
    wpAny (model prog w) A (collect (.ref l)) Q E s := by
  unfold collect
  refine wpAny_bind (wpAny_runValue (codeAny_builtin entry_proto_collect' ?_))
  show wpAny _ _ (do again (.builtin "list.__iadd__" ⟨[← newList [], .ref l], []⟩)) _ _ s
  refine wpAny_bind (wpAny_newList (wpAny_pure ⟨Code.quiet_builtin _ (by decide +kernel), codeAny_builtin entry_list_iadd' ?_⟩))
  show wpAny _ _ (Builtin.List.listExtendWith (.ref s.heap.objs.size) (.ref l) (.ref s.heap.objs.size)) _ _ { s with heap := s.heap.push (seqObj "list" #[] 0) }
  unfold Builtin.List.listExtendWith
  have ho' : (s.heap.push (seqObj "list" #[] 0)).get? l = some o := Heap.get?_push_of_some _ ho
  refine wpAny_bind (wpAny_typeOf (T := T) ⟨o, ho', hc⟩ ?_)
  rw [if_pos (by
    rw [Bool.or_eq_true, Bool.or_eq_true]
    rcases hT with rfl | rfl
    · exact .inl (.inr rfl)
    · exact .inr rfl)]
  refine wpAny_bind (listItems_at ho' hd ?_)
  refine wpAny_bind (listItems_at (xs := #[]) (n := 0) (Heap.get?_push_size _ rfl) rfl ?_)
  rw [if_neg (by simp)]
  refine wpAny_bind (listUpdate_at (xs := #[]) (n := 0) (Heap.get?_push_size _ rfl) rfl ?_ (Nat.zero_le _) (by show (#[] ++ vs.toArray).size ≤ sizeLine + 1; simp only [Array.size_append, List.size_toArray, List.length_nil]; omega))
  refine wpAny_pure ?_
  show wpAny (model prog w) A (do
      let o ← load s.heap.objs.size
      match o.data with
      | .seq xs _ => pure xs.toList
      | _ => unsupported "internal:collect") Q E { s with heap := (s.heap.push (seqObj "list" #[] 0)).update s.heap.objs.size (Obj.mapSeq (· ++ vs.toArray)) }
  refine wpAny_bind (wpAny_load (get?_update_seq (Heap.get?_push_size _ rfl) _) ?_)
  show wpAny _ _ (pure ((#[] : Array Value) ++ vs.toArray).toList) Q E _
  rw [show ((#[] : Array Value) ++ vs.toArray).toList = vs by simp]
  exact wpAny_pure h
theorem sorted_seqv {prog : Program} {w : World} {A : Around} {E : Value → Shared → Prop} {s : Shared} {it : Addr} {T : String} {o : Obj} {vs : List Value} {n : Nat} {Q : Value → Shared → Prop} (hT : T = "list" ∨ T = "tuple")
    (ho : s.heap.get? it = some o) (hc : o.cls = .type T) (hd : o.data = .seq vs.toArray n) (hL : vs.length ≤ sizeLine)
    (S : ∀ h₁ : Heap, (∀ b o', s.heap.get? b = some o' → h₁.get? b = some o') → ∃ κ, PySem.W.SortsAt prog w A.in1.in1 { s with heap := h₁ } κ vs ∧
      ∀ (a : Addr) (h₂ : Heap) (k : Nat), s.heap.objs.size ≤ a → (∀ b o', s.heap.get? b = some o' → h₂.get? b = some o') → h₂.get? a = some (seqObj "list" (PySem.W.sortVals κ false vs vs).toArray k) → Q (.ref a) { s with heap := h₂ }) :
    wpAny (model prog w) A (call (.builtin "sorted") [.ref it]) Q E s := by
  refine call_function_entry kind_sorted plain_sorted entry_sorted (args_sorted1 _) ?_
  unfold Builtin.«sorted»
  refine wpAny_bind (m := checkCount "sorted" 1 1 _) (wpAny_pure ?_)
  refine wpAny_bind (collect_seqC hT ho hc hd hL ?_)
  obtain ⟨h', eh'⟩ : ∃ h', h' = (s.heap.push (seqObj "list" #[] 0)).update s.heap.objs.size (Obj.mapSeq (· ++ vs.toArray)) := ⟨_, rfl⟩
  rw [← eh']
  have hsz : s.heap.objs.size ≤ h'.objs.size := by rw [eh', Heap.size_update, size_push']; omega
  have hk : ∀ b o', s.heap.get? b = some o' → h'.get? b = some o' := fun b o' e => by
    rw [eh', Heap.get?_update_ne _ _ _ _ (Nat.ne_of_lt (Heap.lt_size e))]
    exact Heap.get?_push_of_some _ e
  clear eh'
  refine wpAny_bind (wpAny_newList ?_ (by simpa using hL))
  show wpAny _ _ _ _ _ { s with heap := h'.push (seqObj "list" vs.toArray 0) }
  have ha : (h'.push (seqObj "list" vs.toArray 0)).get? h'.objs.size = some (seqObj "list" vs.toArray 0) := Heap.get?_push_size _ rfl
  have hk2 : ∀ b o', s.heap.get? b = some o' → (PySem.W.sortingHeap (h'.push (seqObj "list" vs.toArray 0)) h'.objs.size vs).get? b = some o' := fun b o' e =>
    PySem.W.sortingHeap_old (fun z => by subst z; exact absurd (Heap.lt_size (hk _ _ e)) (Nat.lt_irrefl _)) (Heap.get?_push_of_some _ (hk b o' e))
  obtain ⟨κ, SS, q⟩ := S _ hk2
  refine wpAny_bind (wpAny_holding (wpAny_call_entry slot_list_sort ⟨_, ha, rfl⟩ entry_list_sort (PySem.W.list_sort_vals (s := { s with heap := h'.push (seqObj "list" vs.toArray 0) }) ha SS hL ?_) (args_list_sort _)))
  obtain ⟨k, hf⟩ := sortedHeap_at (vs := vs) (out := (PySem.W.sortVals κ false vs vs).toArray) ha
  refine ⟨.none, rfl, wpAny_pure ⟨_, rfl, q _ _ k hsz (fun b o' e => ?_) hf⟩⟩
  have hb : b < h'.objs.size := Heap.lt_size (hk b o' e)
  rw [sortedHeap_old (Nat.ne_of_lt hb) (by rw [size_push']; exact Nat.lt_succ_of_lt hb)]
  exact Heap.get?_push_of_some _ (hk b o' e)
theorem each_zip : ∀ {xs : List V} {us : List Value} {ds : List D}, Vals xs us → xs.length = ds.length → PySem.W.EachIs (fun v (b : V × D) => RelV b.1 v) us (xs.zip ds)
  | _, _, [], .nil, hl => .nil
  | _, _, [], .cons a b, hl => by cases hl
  | _, _, _ :: _, .nil, hl => by cases hl
  | _, _, d :: ds, .cons a b, hl => .cons a (each_zip b (by simpa using hl))
theorem each_reads {h : Heap} : ∀ {xs : List V} {us : List Value} {ds : List D} {as : List Addr}, ReadsAll h us ds as → xs.length = ds.length → PySem.W.EachIs (fun v (b : V × D) => ∃ as, Reads h v b.2 as) us (xs.zip ds)
  | [], _, _, _, r, hl => by
    cases r with
    | nil => exact .nil
    | cons a b => cases hl
  | x :: xs, _, _, _, r, hl => by
    cases r with
    | nil => cases hl
    | cons a b => exact .cons ⟨_, a⟩ (each_reads b (by simpa using hl))
theorem vals_each : ∀ {us : List Value} {bs : List (V × D)}, PySem.W.EachIs (fun v (b : V × D) => RelV b.1 v) us bs → Vals (bs.map (·.1)) us
  | _, _, .nil => .nil
  | _, _, .cons a b => .cons a (vals_each b)
theorem brl_pairs {K : PySem.W.Frag} {av : Av} {H : Hp} : ∀ {bs : List (V × D)}, (∀ b ∈ bs, Br K M av H b.1 b.2) → BrL K M av H (bs.map (·.1)) (bs.map (·.2))
  | [], _ => .nil
  | b :: bs, h => .cons (h b List.mem_cons_self) (brl_pairs fun c hc => h c (List.mem_cons_of_mem _ hc))
theorem brl_zip {K : PySem.W.Frag} {av : Av} {H : Hp} : ∀ {xs : List V} {ds : List D}, BrL K M av H xs ds → ∀ b ∈ xs.zip ds, Br K M av H b.1 b.2
  | _, _, .nil, b, hb => by cases hb
  | _, _, .cons a r, b, hb => by
    rcases List.mem_cons.mp hb with rfl | hb
    · exact a
    · exact brl_zip r b hb
theorem sort_in {pins : List (Addr × Obj)} {σ : L2.St} {H : Hp} {s : Shared} {Q : VK} (hM : MemOk M) (hu : X.A.units + 65 < cLine) (I : Inv X pins σ H s) {av : Av} {it : Addr} {T : String} {o : Obj} {us : List Value} {n : Nat} {xs : List V} {ds : List D} (hT : T = "list" ∨ T = "tuple")
    (ho : s.heap.get? it = some o) (hc : o.cls = .type T) (hd : o.data = .seq us.toArray n) (hL : xs.length ≤ sizeLine) (hv : Vals xs us) (b : BrL X.K M av H xs ds) (hav : ∀ a, av a → H a ≠ none) (hs : okSort ds = true)
    (k : ∀ v H', Kp M noA H H' → Br X.K M av H' v (.list (dsort ds)) → Q v H') :
    wpAny (model X.prog X.w) X.A (call (.builtin "sorted") [.ref it]) (EP X pins σ Q) X.xe s := by
  obtain ⟨hly, hal, hdp, hso⟩ := okSort_of hs
  have hlay : PyData.canLayAll0 ds = true := hly
  obtain ⟨as, hr⟩ := Dp.readsAll I _ _ us (b.dp hlay) hv
  have hlen : xs.length = ds.length := b.length
  refine sorted_seqv hT ho hc hd (by rw [← hv.length]; exact hL) fun h₁ hk => ?_
  have hr1 : ∃ as, ReadsAll h₁ us ds as := ⟨as, ReadsAll.keeps hk hr⟩
  obtain ⟨as1, hr1⟩ := hr1
  have he1 := each_reads (xs := xs) hr1 hlen
  have hm2 : (xs.zip ds).map Prod.snd = ds := by rw [List.map_snd_zip]; omega
  have er : PySem.W.EachIs (fun v d => ∃ as, Reads h₁ v d as) us ds := by
    have := PySem.W.each_map (R := fun v d => ∃ as, Reads h₁ v d as) (Prod.snd : V × D → D) he1
    rw [hm2] at this
    exact this
  have hun : ∀ d ∈ ds, X.A.in1.in1.units + d.depth < cLine := fun d hd => by
    have h12 := hdp d hd
    have : X.A.units + 2 + d.depth < cLine := by omega
    exact this
  refine ⟨PySem.W.dataKind h₁ ds, ?_, fun a h₂ k2 ha hk2 hf => ?_⟩
  · rcases hso with hso | ⟨r, rfl, ht⟩
    · exact PySem.W.SortsAt.data (s := { s with heap := h₁ }) er hal hso hun
    · exact SortsAt_empty (s := { s with heap := h₁ }) er hal ht hun
  · have q := PySem.W.sortVals_data (R := fun v (b : V × D) => RelV b.1 v) (enc := Prod.snd) false (each_zip hv hlen) he1 (by rw [hm2]; exact hal)
    rw [hm2] at q
    have hmem : ∀ b' ∈ (xs.zip ds).mergeSort (PySem.W.dataLe false Prod.snd), Br X.K M av H b'.1 b'.2 := fun b' hb => brl_zip b b' ((List.mergeSort_perm _ _).mem_iff.mp hb)
    have hb2 := brl_pairs hmem
    have hsort : ((xs.zip ds).mergeSort (PySem.W.dataLe false Prod.snd)).map (·.2) = dsort ds := by
      have := List.map_mergeSort (r := PySem.W.dataLe false (Prod.snd : V × D → D)) (s := PySem.W.dataLe false id) (f := Prod.snd) (l := xs.zip ds) (fun _ _ _ _ => rfl)
      rw [hm2] at this
      exact this
    rw [hsort] at hb2
    have hfr : H a = none := I.hok.fresh ha
    have hlen2 : (((xs.zip ds).mergeSort (PySem.W.dataLe false Prod.snd)).map (·.1)).length ≤ sizeLine := by
      rw [List.length_map, List.length_mergeSort, List.length_zip]; omega
    exact ⟨.ref a, upd H a (.lst (((xs.zip ds).mergeSort (PySem.W.dataLe false Prod.snd)).map (·.1))), I.laid (t' := s.toks) hk2 ha ⟨hlen2, _, k2, vals_each q, hf⟩, rfl, k _ _ (Kp.new hM hfr) (.lst upd_same (fun z => hav _ z hfr) (hb2.mono (Kp.new hM hfr).of))⟩
theorem c_sorted (hM : MemOk M) (hc : X.calm = true) (hu : X.A.units + 65 < cLine) : CallR X (.builtin "sorted") (rC X.K M sortedD) := by
  intro pins s σ H xs us Q I r h
  obtain ⟨av, ds, z, b, hd, g, k⟩ := h
  unfold sortedD at g
  split at g
  · split at g
    · rename_i hs
      cases g
      obtain ⟨v, rfl, b1⟩ := one_k b
      obtain ⟨a, vs, rfl, ha, r1⟩ := b1.list
      obtain ⟨its, rv, hl, hz⟩ := I.list (SqL.of ha)
      rw [Vals.ref1 r]
      obtain ⟨o, ho, hcl, n, hdat⟩ := hl.isList
      exact sort_in hM hu I (.inl rfl) ho hcl hdat hz rv r1 hd hs k
    · cases g
  · split at g
    · rename_i hs
      cases g
      obtain ⟨v, rfl, b1⟩ := one_k b
      obtain ⟨a, vs, rfl, ha, r1⟩ := b1.tuple
      obtain ⟨its, rv, hl, hz⟩ := I.tuple (SqT.of ha)
      rw [Vals.ref1 r]
      obtain ⟨o, ho, hcl, n, hdat⟩ := show s.heap.IsTuple a its.toArray from hl
      exact sort_in hM hu I (.inr rfl) ho hcl hdat hz rv r1 hd hs k
    · cases g
  · cases g
end
end G

namespace HT
open PySem PySem.Spec PyProof.Rows
section
variable {prog : Program} {w : World} {A : Around} {E : Value → Shared → Prop} {s : Shared}
theorem sliceApplied_rev {sl : Addr} {vs : Value} {n : Nat} {Q : Int × Int × Nat → Shared → Prop} (hs : s.heap.IsSliceOf sl .none .none vs) (pv : IsPart vs (some (-1)))
    (h : Q ((n : Int) - 1, -1, n) s) : wpAny (model prog w) A (Builtin.Slice.sliceApplied (.ref sl) (pure (n : Int))) Q E s := by
  obtain ⟨os, hos, hcs, hds⟩ := id hs
  unfold Builtin.Slice.sliceApplied Builtin.Slice.sliceFields
  refine wpAny_bind (wpAny_bind (wpAny_field hos hds (x := .none) rfl (wpAny_bind (wpAny_field hos hds (x := .none) rfl (wpAny_bind (wpAny_field hos hds (x := vs) rfl (wpAny_pure ?_)))))))
  refine wpAny_bind (slicePart_ pv ?_)
  show wpAny _ _ (if ((-1 : Int) == 0) = true then _ else _) _ _ s
  rw [if_neg (by decide)]
  refine wpAny_bind (slicePart_none (wpAny_bind (slicePart_none (wpAny_bind (wpAny_pure ?_)))))
  show wpAny _ _ (match Builtin.Slice.sliceAdjust none none (-1) (n : Int) with | (lo, hi) => pure (lo, (-1 : Int), Builtin.Slice.slicePlaces lo hi (-1))) _ _ s
  have e1 : Builtin.Slice.sliceAdjust none none (-1) (n : Int) = ((n : Int) - 1, -1) := by
    unfold Builtin.Slice.sliceAdjust
    simp
  rw [e1]
  show wpAny _ _ (pure ((n : Int) - 1, (-1 : Int), Builtin.Slice.slicePlaces ((n : Int) - 1) (-1) (-1))) _ _ s
  have e2 : Builtin.Slice.slicePlaces ((n : Int) - 1) (-1) (-1) = n := by
    unfold Builtin.Slice.slicePlaces
    rw [if_neg (by decide)]
    split
    · rw [show (- -1 : Int) = 1 by decide, Int.ediv_one]; omega
    · omega
  rw [e2]
  exact wpAny_pure h
theorem pick_rev (xs : Array Value) : ((List.range xs.size).filterMap fun (m : Nat) => xs[(((xs.size : Int) - 1) + (m : Int) * -1).toNat]?).toArray = xs.toList.reverse.toArray := by
  have e : ((List.range xs.size).filterMap fun (m : Nat) => xs[(((xs.size : Int) - 1) + (m : Int) * -1).toNat]?) = ((List.range xs.size).map fun k => xs.size - 1 - k).filterMap fun k => xs[k]? := by
    rw [List.filterMap_map]
    have q : ∀ (l : List Nat) (f g : Nat → Option Value), (∀ m ∈ l, f m = g m) → l.filterMap f = l.filterMap g := by
      intro l f g hl
      induction l with
      | nil => rfl
      | cons a l ih =>
        rw [List.filterMap_cons, List.filterMap_cons, hl a List.mem_cons_self, ih fun m hm => hl m (List.mem_cons_of_mem _ hm)]
    refine q _ _ _ fun m hm => ?_
    have := List.mem_range.mp hm
    show _ = xs[xs.size - 1 - m]?
    congr 1
    omega
  rw [e]
  have := PySem.W.krv_pick xs
  unfold slicePick at this
  rw [PySem.W.krv_bounds] at this
  have t2 : ((sliceRange ((xs.size : Int) - 1) (-1) (-1)).filterMap (xs[·]?)).toArray = xs.toList.reverse.toArray := this
  rw [PySem.W.krv_sliceRange] at t2
  exact t2
theorem getItem_tuple_rev {t sl : Addr} {items : Array Value} {vs : Value} {Q : Value → Shared → Prop} (ht : IsTup s.heap t items) (hs : s.heap.IsSliceOf sl .none .none vs) (pv : IsPart vs (some (-1)))
    (h : Q (.ref s.heap.objs.size) { s with heap := s.heap.push { cls := .type "tuple", data := .seq items.toList.reverse.toArray } })
    (hsz : items.size ≤ sizeLine) : wpAny (model prog w) A (getItem (.ref t) (.ref sl)) Q E s := by
  have htake : sizeOk (.seq items.toList.reverse.toArray) := by
    show items.toList.reverse.toArray.size ≤ sizeLine
    simpa using hsz
  obtain ⟨os, hos, hcs, hds⟩ := id hs
  have hTs : s.TypeIs (.ref sl) "slice" := ⟨os, hos, hcs⟩
  unfold getItem
  try with_reducible refine wpAny_holding ?_
  first | refine wpAny_bind (wpAny_pure ?_) | skip
  refine wpAny_bind (wpAny_sequenceKey ht.typeIs (by decide) ?_)
  refine wpAny_bind (wpAny_callSpecial?_slot (name := Str.ofString "__getitem__") ht.typeIs PyProof.Rows.slot_tuple_getitem
    (wpAny_call_entry PyProof.Rows.slot_tuple_getitem ht.typeIs entry_tuple_getitem ?_ (args_tuple_getitem _ _)))
  show wpAny _ _ (Builtin.Tuple.tupleItemsOf (.ref t) >>= _) _ _ s
  refine wpAny_bind (tupleItemsOf_ ht ?_)
  refine wpAny_bind (wpAny_typeOf hTs ?_)
  rw [if_pos (by decide)]
  refine wpAny_bind (sliceApplied_rev hs pv ?_)
  have hno : ¬ ((((items.size : Int) - 1) == 0 && (-1 : Int) == 1 && items.size == items.size) = true) := by
    intro q
    rw [Bool.and_eq_true, Bool.and_eq_true] at q
    exact absurd (eq_of_beq q.1.2) (by decide)
  show wpAny _ _ (if (((items.size : Int) - 1) == 0 && (-1 : Int) == 1 && items.size == items.size) = true then _ else _) _ _ s
  rw [if_neg hno, pick_rev]
  first
    | exact wpAny_bind (m := Builtin.Tuple.tupleExact _) (wpAny_newObj_type (wpAny_pure ⟨_, rfl, wpAny_pure h⟩) htake)
    | exact wpAny_bind (m := Builtin.Tuple.tupleExact _) (wpAny_newObj_type (wpAny_bind (wpAny_pure (wpAny_pure ⟨_, rfl, wpAny_pure h⟩))) htake)
    | exact wpAny_bind (wpAny_bind (m := Builtin.Tuple.tupleExact _) (wpAny_newObj_type (wpAny_pure (wpAny_pure ⟨_, rfl, wpAny_pure h⟩)) htake))
    | exact wpAny_bind (wpAny_bind (m := Builtin.Tuple.tupleExact _) (wpAny_newObj_type (wpAny_pure ⟨_, rfl, wpAny_pure h⟩) htake))
end
end HT
namespace G
open PySem PySem.Spec PyProof.Rows L2
/-! ## xs[::-1] -/
def revD : D → Option D
  | .list ds => some (.list ds.reverse)
  | .tuple ds => some (.tuple ds.reverse)
  | _ => none
section
variable {X : Cx} {M : Mem}
def tRevA (K : PySem.W.Frag) (te : TE) : TE := fun σ H Q => te σ H fun x H1 => ∃ a xs, x = .ref a ∧ ((SqL K H1 a xs ∧ ∀ p, H1 p = none → Q (.ref p) (upd H1 p (.lst xs.reverse))) ∨ (SqT K H1 a xs ∧ ∀ p, H1 p = none → Q (.ref p) (upd H1 p (.tup xs.reverse))))
theorem pe_revA {e : Expr} {te : TE} {k : Nat} {p1 p2 p3 pos : Pos} (he : PE X e te) : PE X (.Subscript e (.Slice none none (some (.UnaryOp .USub (.Constant (.int 1) k p1) p2)) p3) pos) (tRevA X.K te) := by
  refine ⟨fun pins s σ H Q I h => ?_⟩
  refine Subscript_ (thn (he.run pins s σ H _ I h) fun v s1 ⟨x, H1, I1, r1, q1⟩ => ?_)
  obtain ⟨a, xs, ex, q⟩ := q1
  subst ex
  cases r1
  have hst : PO X (some (.UnaryOp .USub (.Constant (.int 1) k p1) p2)) (tPart (tUn (rU fun i => .int (-i)) (tC (.int 1)))) := po_some (pe_un un_neg pe_int)
  refine wpAny_Slice (thn (po_none.run pins s1 σ H1 (fun o H2 => o = none ∧ H2 = H1) I1 ⟨rfl, rfl⟩) fun vl s2 ⟨l, H2, I2, pl, el, e2⟩ => ?_)
  subst el e2
  refine thn (po_none.run pins s2 σ H2 (fun o H3 => o = none ∧ H3 = H2) I2 ⟨rfl, rfl⟩) fun vu s3 ⟨u, H3, I3, pu, eu, e3⟩ => ?_
  subst eu e3
  refine thn (hst.run pins s3 σ H3 (fun o H4 => o = some (-1) ∧ H4 = H3) I3 ⟨1, rfl, -1, rfl, rfl, rfl⟩) fun vs s4 ⟨o, H4, I4, ps, eo, e4⟩ => ?_
  subst eo e4
  have I5 : Inv X pins σ H4 { s4 with heap := s4.heap.push { cls := .type "slice", data := .fields #[vl, vu, vs] } } := I4.kept (t' := s4.toks) fun b ob q => Heap.get?_push_of_some _ q
  show wpAny (model X.prog X.w) X.A (subscriptTail e (.Slice none none (some (.UnaryOp .USub (.Constant (.int 1) k p1) p2)) p3) (.ref a) (.ref s4.heap.objs.size)) (EP X pins σ Q) X.xe { s4 with heap := s4.heap.push { cls := .type "slice", data := .fields #[vl, vu, vs] } }
  rcases q with ⟨hx, q⟩ | ⟨hx, q⟩
  · obtain ⟨its, r, ht, hz⟩ := I5.list hx
    have hlen := r.length
    refine tail_any (ops := [.ref a, .ref s4.heap.objs.size]) ht.isList.typeIs (PySem.slot_list_getitem.lookup) ?_ (by with_unfolding_all rfl)
    refine wpAny_getItem_list_slice ht.isList (Heap.IsSliceOf.new _ vl vu vs) pl pu ps (by decide) ?_ (by rw [List.size_toArray]; omega)
    rw [PySem.W.krv_pick]
    refine ⟨.ref _, _, I5.laid (t' := s4.toks) (o := .lst xs.reverse) (fun b ob q => Heap.get?_push_of_some _ q) (Nat.le_refl _) ?_, rfl, q _ (I5.hok.fresh (Nat.le_refl _))⟩
    exact ⟨by rw [List.length_reverse]; exact hz, _, 0, r.reverse, Heap.get?_push_size _ rfl⟩
  · obtain ⟨its, r, ht, hz⟩ := I5.tuple hx
    have hlen := r.length
    cases pl
    cases pu
    refine tail_any (ops := [.ref a, .ref s4.heap.objs.size]) ht.typeIs (PyProof.Rows.slot_tuple_getitem.lookup) ?_ (by with_unfolding_all rfl)
    refine HT.getItem_tuple_rev ht (Heap.IsSliceOf.new _ _ _ vs) ps ?_ (by rw [List.size_toArray]; omega)
    refine ⟨.ref _, _, I5.laid (t' := s4.toks) (o := .tup xs.reverse) (fun b ob q => Heap.get?_push_of_some _ q) (Nat.le_refl _) ?_, rfl, q _ (I5.hok.fresh (Nat.le_refl _))⟩
    have hg := Heap.get?_push_size (h := { s4 with heap := s4.heap.push { cls := .type "slice", data := .fields #[.none, .none, vs] } }.heap) (o := { cls := .type "tuple", data := .seq its.reverse.toArray }) rfl
    exact ⟨by rw [List.length_reverse]; exact hz, _, r.reverse, ⟨_, hg, rfl, _, rfl⟩⟩
theorem fe_rev {e : Expr} {f : EF} {k : Nat} {p1 p2 p3 pos : Pos} (hM : MemOk M) (he : FK X M e f) : FE X M (.Subscript e (.Slice none none (some (.UnaryOp .USub (.Constant (.int 1) k p1) p2)) p3) pos) (c1 revD f) := PE.imp (pe_revA he) fun σ H Q q => by
  obtain ⟨H0, av0, av, ρ, d, c, e, k⟩ := q
  obtain ⟨x, e1, e⟩ := bind_some e
  refine ⟨H0, av0, av, ρ, x, c, e1, fun v H1 k1 b1 => ?_⟩
  unfold revD at e
  split at e
  · cases e
    obtain ⟨a, vs, rfl, ha, r1⟩ := b1.list
    refine ⟨a, vs, rfl, .inl ⟨SqL.of ha, fun p hp => ?_⟩⟩
    have kn := Kp.new (o := HO.lst vs.reverse) hM hp
    exact k _ _ (k1.trans kn) (.lst upd_same (fun z => (c.mono k1).dom _ z hp) (r1.rev.mono kn.of))
  · cases e
    obtain ⟨a, vs, rfl, ha, r1⟩ := b1.tuple
    refine ⟨a, vs, rfl, .inr ⟨SqT.of ha, fun p hp => ?_⟩⟩
    have kn := Kp.new (o := HO.tup vs.reverse) hM hp
    exact k _ _ (k1.trans kn) (.tup upd_same (r1.rev.mono kn.of))
  · cases e
end
end G

namespace G
open PySem PySem.Spec PyProof.Rows L2
/-! ## methods of lists -/
def countD : D → D → Option D
  | .list ds, .int k => (intsD ds).bind fun ns => some (.int (ns.count k : Nat))
  | _, _ => none
/-- the first place of an equal one -/
def idxOf (ds : List D) (d : D) : Option Nat := ds.findIdx? fun z => PyData.eqv z d
def indexD : D → D → Option D
  | .list ds, d => if SeqAt.shaped (.list ds) = true ∧ SeqAt.shaped d = true then (idxOf ds d).bind fun j => some (.int (j : Nat)) else none
  | _, _ => none
section
variable {X : Cx} {M : Mem} {e e2 : Expr} {f h : EF} {apos cpos : Pos}
theorem fe_count (hu : X.A.units + 65 < cLine) (he : FK X M e f) (hb : FK X M e2 h)
    (hbase : attributeBase e "count" X.env (eval e X.env) = eval e X.env := by rfl)
    (hfew : ((backTo cpos (starEach [e2] X.env)).all (fun x => !x.1) && (backToKw cpos (keywordEach [] X.env)).all (fun x => x.1.isSome)
      && decide (([e2] : List Expr).length + ([] : List Keyword).length + (if ([] : List Keyword).isEmpty then 0 else 1) < 30)) = true := by rfl)
    (hline : (apos.endLine == cpos.line) = true := by rfl) (hs : starEach [e2] X.env = (false, eval e2 X.env) :: starEach [] X.env := by rfl) (hplain : (backTo cpos (starEach [] X.env)).any (·.1) = false := by rfl) :
    FE X M (.Call (.Attribute e "count" apos) [e2] [] cpos) (c2 countD f h) :=
  PE.imp (pe_bm PySem.F.plainAttrs_list PySem.F.slot_list_count PySem.F.type_list_count mt_lcount he (fak_cons hb fak_nil hs) hbase hfew hline hs hplain) fun σ H Q q => by
    obtain ⟨H0, av0, av, ρ, d, c, ev, k⟩ := q
    obtain ⟨x, e1, ev⟩ := bind_some ev
    obtain ⟨y, e2, ev⟩ := bind_some ev
    refine ⟨H0, av0, av, ρ, x, c, e1, fun v H1 k1 b1 => ?_⟩
    unfold countD at ev
    split at ev
    · obtain ⟨ns, e3, ev⟩ := bind_some ev
      cases ev
      obtain ⟨a, vs, rfl, ha, r1⟩ := b1.list
      rw [ints_of e3] at r1
      have ee := r1.of_ints
      subst ee
      refine ⟨.inl ⟨rfl, _, SqL.of ha⟩, ?_⟩
      refine ⟨H0, av0, av, ρ, _, c.mono k1, (show cCons h cNil ρ = some [_] by unfold cCons cNil; rw [e2]; rfl), fun ws H2 k2 b2 => ?_⟩
      obtain ⟨w, rfl, bw⟩ := one_k b2
      rw [bw.int_]
      exact ⟨a, ns, _, rfl, rfl, SqL.of (k2.lst _ _ (fun z => z) ha), k _ _ (k1.trans k2) (.int _)⟩
    · cases ev
theorem fe_index (hu : X.A.units + 65 < cLine) (he : FK X M e f) (hb : FK X M e2 h)
    (hbase : attributeBase e "index" X.env (eval e X.env) = eval e X.env := by rfl)
    (hfew : ((backTo cpos (starEach [e2] X.env)).all (fun x => !x.1) && (backToKw cpos (keywordEach [] X.env)).all (fun x => x.1.isSome)
      && decide (([e2] : List Expr).length + ([] : List Keyword).length + (if ([] : List Keyword).isEmpty then 0 else 1) < 30)) = true := by rfl)
    (hline : (apos.endLine == cpos.line) = true := by rfl) (hs : starEach [e2] X.env = (false, eval e2 X.env) :: starEach [] X.env := by rfl) (hplain : (backTo cpos (starEach [] X.env)).any (·.1) = false := by rfl) :
    FE X M (.Call (.Attribute e "index" apos) [e2] [] cpos) (c2 indexD f h) :=
  PE.imp (pe_bm PySem.F.plainAttrs_list PySem.F.slot_list_index PySem.F.type_list_index (mt_indexD hu) he (fak_cons hb fak_nil hs) hbase hfew hline hs hplain) fun σ H Q q => by
    obtain ⟨H0, av0, av, ρ, d, c, ev, k⟩ := q
    obtain ⟨x, e1, ev⟩ := bind_some ev
    obtain ⟨y, e2, ev⟩ := bind_some ev
    refine ⟨H0, av0, av, ρ, x, c, e1, fun v H1 k1 b1 => ?_⟩
    unfold indexD at ev
    split at ev
    · split at ev
      · rename_i hsh
        obtain ⟨j, e3, ev⟩ := bind_some ev
        cases ev
        have bd := b1.dp (SeqAt.canLay_of_shaped hsh.1)
        obtain ⟨a, vs, rfl, ha, r1⟩ := b1.list
        refine ⟨.inl ⟨rfl, _, SqL.of ha⟩, ?_⟩
        refine ⟨H0, av0, av, ρ, _, c.mono k1, (show cCons h cNil ρ = some [_] by unfold cCons cNil; rw [e2]; rfl), fun ws H2 k2 b2 => ?_⟩
        obtain ⟨w, rfl, bw⟩ := one_k b2
        unfold idxOf at e3
        rw [List.findIdx?_eq_some_iff_getElem] at e3
        obtain ⟨hj, h1, h2⟩ := e3
        have bd2 := (b1.mono k2).dp (SeqAt.canLay_of_shaped hsh.1)
        refine ⟨a, w, _, _, j, _, rfl, rfl, bd2, bw.dp (SeqAt.canLay_of_shaped hsh.2), hsh.1, hsh.2, List.getElem?_eq_getElem hj, h1, fun m z' hm hz => ?_, k _ _ (k1.trans k2) (.int _)⟩
        obtain ⟨hm', hz⟩ := List.getElem?_eq_some_iff.mp hz
        have := h2 m hm
        rw [hz] at this
        simpa using this
      · cases ev
    · cases ev
end
end G

namespace G
open PySem PySem.Spec PyProof.Rows L2
/-! ## a dict that remembers values -/
mutual
/-- the value is a key, all its tuples tracked -/
inductive KAt (H : Hp) : V → NestedKey → Prop
  | non : KAt H .non .none
  | num (i : Int) : KAt H (.int i) (.num i)
  | text (x : Str) : KAt H (.str x) (.text x)
  | tup {a : Addr} {xs : List V} {ks : List NestedKey} : H a = some (.tup xs) → KAts H xs ks → KAt H (.ref a) (.tup ks)
inductive KAts (H : Hp) : List V → List NestedKey → Prop
  | nil : KAts H [] []
  | cons {v : V} {k : NestedKey} {vs : List V} {ks : List NestedKey} : KAt H v k → KAts H vs ks → KAts H (v :: vs) (k :: ks)
end
mutual
theorem KAt.mono {H H' : Hp} (h : ∀ a xs, H a = some (.tup xs) → H' a = some (.tup xs)) : ∀ {v : V} {k : NestedKey}, KAt H v k → KAt H' v k
  | _, _, .non => .non
  | _, _, .num i => .num i
  | _, _, .text x => .text x
  | _, _, .tup e r => .tup (h _ _ e) (KAts.mono h r)
theorem KAts.mono {H H' : Hp} (h : ∀ a xs, H a = some (.tup xs) → H' a = some (.tup xs)) : ∀ {v : List V} {k : List NestedKey}, KAts H v k → KAts H' v k
  | _, _, .nil => .nil
  | _, _, .cons a r => .cons (KAt.mono h a) (KAts.mono h r)
end
mutual
theorem KAt.of_br {K : PySem.W.Frag} {M : Mem} {av : Av} {H : Hp} : ∀ (k : NestedKey) (v : V), Br K M av H v k.data → KAt H v k
  | .none, v, b => by
    simp only [NestedKey.data] at b
    cases b; exact .non
  | .num i, v, b => by
    simp only [NestedKey.data] at b
    cases b; exact .num i
  | .text x, v, b => by
    simp only [NestedKey.data] at b
    cases b; exact .text x
  | .tup ks, v, b => by
    simp only [NestedKey.data] at b
    cases b with
    | tup e r => exact .tup e (KAts.of_br ks _ r)
theorem KAts.of_br {K : PySem.W.Frag} {M : Mem} {av : Av} {H : Hp} : ∀ (ks : List NestedKey) (vs : List V), BrL K M av H vs (NestedKey.datas ks) → KAts H vs ks
  | [], vs, b => by
    simp only [NestedKey.datas] at b
    cases b; exact .nil
  | k :: ks, vs, b => by
    simp only [NestedKey.datas] at b
    cases b with
    | cons a r => exact .cons (KAt.of_br k _ a) (KAts.of_br ks _ r)
end
mutual
theorem KAt.is {P : Program} {w : World} {H : Hp} {h : Heap} (O : HOk P w H h) : ∀ {v : V} {k : NestedKey} {u : Value}, KAt H v k → RelV v u → NestedIs h k u
  | _, _, _, .non, r => by cases r; exact .none
  | _, _, _, .num i, r => by obtain ⟨t, rfl⟩ := r; exact .int i t
  | _, _, _, .text x, r => by obtain ⟨t, rfl⟩ := r; exact .text x t
  | _, _, _, .tup e q, r => by
    cases r
    obtain ⟨_, its, rv, o, h1, h2, n, h3⟩ := O _ _ e
    exact .tup h1 h2 h3 (KAts.is O q rv)
theorem KAts.is {P : Program} {w : World} {H : Hp} {h : Heap} (O : HOk P w H h) : ∀ {v : List V} {k : List NestedKey} {u : List Value}, KAts H v k → Vals v u → NestedAll h k u
  | _, _, _, .nil, .nil => .nil
  | _, _, _, .cons a r, .cons b q => .cons (KAt.is O a b) (KAts.is O r q)
end
/-! ## lambdas that are handed on -/
/-- the one lambda of the text: its parameters, its body, its names, the name that it captures -/
class LamOf where
  params : Arguments
  body : Expr
  scope : Scope
  var : Str
def lamQ : Str := ("_law_spoilt" : Str) ++ ".<locals>." ++ "<lambda>"
/-- nothing more is said of an object that stays as it is -/
def uAny : HO := .ext fun _ => True
variable [L : LamOf]
/-- at f stands the lambda, its captured name at the cell cc -/
def LamAt (H : Hp) (f cc : Addr) : Prop := ∃ (cl : List (Str × Addr)) (pm : Value) (c' : Addr) (ctv : Value), H f = some (.frz (PySem.W.kla_obj "<lambda>" lamQ L.params L.body L.scope cl pm c' ctv) uAny) ∧ H c' = some (LamX.CodeO c' lamQ) ∧ cl = [(L.var, cc)]
def CellAt (H : Hp) (cc : Addr) (n : Int) : Prop := ∃ (oc : Obj) (t : Tok), H cc = some (.frz oc uAny) ∧ oc.data = .cell (some (.int n t))
def memL : Mem := fun H k a => (k = .int 77 ∧ LamX.TabS H a lamQ) ∨ (k = .int 79 ∧ H a = some (LamX.CodeO a lamQ)) ∨ (∃ cc : Nat, k = .tuple [.int 80, .int cc] ∧ LamAt H a cc) ∨ (∃ (n : Int) (cc : Nat), k = .tuple [.int 78, .int n] ∧ LamAt H a cc ∧ CellAt H cc n)
theorem memL_0 {H : Hp} {a : Addr} (h : memL H (.int 0) a) : False := by
  rcases h with ⟨z, _⟩ | ⟨z, _⟩ | ⟨_, z, _⟩ | ⟨_, _, z, _⟩ <;> cases z
theorem memL_1 {H : Hp} {a : Addr} (h : memL H (.int 1) a) : False := by
  rcases h with ⟨z, _⟩ | ⟨z, _⟩ | ⟨_, z, _⟩ | ⟨_, _, z, _⟩ <;> cases z
/-- the memory of lambdas goes from heap to heap, where code objects, objects that stay and the table go -/
theorem memL_go {H H' : Hp} (hc : ∀ c, H c = some (LamX.CodeO c lamQ) → H' c = some (LamX.CodeO c lamQ)) (hf : ∀ b o u, H b = some (.frz o u) → H' b = some (.frz o u)) (ht : ∀ b ps, H b = some (.tbl ps) → H' b = some (.tbl ps)) : ∀ k a, memL H k a → memL H' k a := by
  intro k a h
  have la : ∀ f cc, LamAt H f cc → LamAt H' f cc := fun f cc ⟨cl, pm, c', ctv, h1, h2, h3⟩ => ⟨cl, pm, c', ctv, hf _ _ _ h1, hc _ h2, h3⟩
  rcases h with ⟨z, ps, h1, h2, h3⟩ | ⟨z, h⟩ | ⟨cc, z, h⟩ | ⟨n, cc, z, h, oc, t, h1, h2⟩
  · refine .inl ⟨z, ps, ht _ _ h1, h2, fun pos cv q => ?_⟩
    obtain ⟨c, e1, e2⟩ := h3 pos cv q
    exact ⟨c, e1, hc _ e2⟩
  · exact .inr (.inl ⟨z, hc _ h⟩)
  · exact .inr (.inr (.inl ⟨cc, z, la _ _ h⟩))
  · exact .inr (.inr (.inr ⟨n, cc, z, la _ _ h, oc, t, hf _ _ _ h1, h2⟩))
theorem memL_ok : MemOk memL := fun H H' k a s h => memL_go (fun c e => s _ _ e) (fun b o u e => s _ _ e) (fun b ps e => s _ _ e) k a h
theorem code_lst {H : Hp} {a c : Addr} {xs : List V} (hx : H a = some (.lst xs)) (e : H c = some (LamX.CodeO c lamQ)) : c ≠ a := fun z => by
  rw [z, hx] at e
  unfold LamX.CodeO at e
  cases e
theorem memL_w : MemW memL := fun H a xs ys k p hx h => memL_go (fun c e => by rw [upd_ne (code_lst hx e)]; exact e) (fun b o u e => by rw [upd_ne (ne_of e hx (fun z => nomatch z))]; exact e) (fun b ps e => by rw [upd_ne (ne_of e hx (fun z => nomatch z))]; exact e) k p h
/-- the dict's own object: its entries -/
def mdP (P : Program) (w : World) (a : Addr) (xs : List (NestedKey × Addr × Value)) : Heap → Prop := fun h => ∃ o es ep, h.get? a = some o ∧ o.ExactDict ∧ o.data = .dict es ep ∧ es.toList = xs.map (entryOfKey (nestedKind P w))
/-- a dict is no code object -/
theorem md_code {P : Program} {w : World} {a c : Addr} {xs : List (NestedKey × Addr × Value)} (e : HO.ext (mdP P w a xs) = LamX.CodeO c lamQ) (hac : c = a) : False := by
  subst hac
  unfold LamX.CodeO at e
  injection e with e
  have h0 : mdP P w c xs { objs := Array.replicate (c + 1) { cls := .type "dict", data := .dict (xs.map (entryOfKey (nestedKind P w))).toArray 0 } } :=
    ⟨{ cls := .type "dict", data := .dict (xs.map (entryOfKey (nestedKind P w))).toArray 0 }, _, _, by unfold Heap.get?; simp, ⟨rfl, rfl, rfl⟩, rfl, by simp⟩
  rw [e] at h0
  obtain ⟨oc, vs, t, h1, h2, _⟩ := h0
  unfold Heap.get? at h1
  simp at h1
  subst h1
  cases h2
theorem memL_md {P : Program} {w : World} {H : Hp} {a b : Addr} {k : D} {xs : List (NestedKey × Addr × Value)} {φ : Heap → Prop} (h : H a = some (.ext (mdP P w a xs))) (m : memL H k b) : memL (upd H a (.ext φ)) k b :=
  memL_go (fun c e => by
    by_cases z : c = a
    · rw [z, h] at e; exact (md_code (Option.some.inj e) rfl).elim
    · rw [upd_ne z]; exact e) (fun b o u e => by rw [upd_ne (ne_of e h (fun z => nomatch z))]; exact e) (fun b ps e => by rw [upd_ne (ne_of e h (fun z => nomatch z))]; exact e) k b m
section
variable (P : Program) (w : World) (vf : NestedKey → Int)
/-- a dict at a, of keys of S alone, each with its value -/
def MDict (S : List NestedKey) (H : Hp) (a : Addr) (xs : List (NestedKey × Addr × Value)) : Prop :=
  (a == sysModules) = false ∧ H a = some (.ext (mdP P w a xs)) ∧ (xs.map (·.1)).Nodup ∧ ∀ x ∈ xs, x.1 ∈ S ∧ KAt H (.ref x.2.1) x.1 ∧ x.1.depth ≤ 8 ∧ ∃ t, x.2.2 = .int (vf x.1) t
def memV0 (C : Addr) (S : List NestedKey) : Mem := fun H k a =>
  (k = .int 0 ∧ ∃ xs, MDict P w vf S H a xs) ∨ (k = .int 1 ∧ ∃ dx m xs, H a = some (.ins C dx [("known", .ref m)]) ∧ MDict P w vf S H m xs)
/-- with the lambdas -/
def memV (C : Addr) (S : List NestedKey) : Mem := fun H k a => memV0 P w vf C S H k a ∨ memL H k a
end
section
variable {P : Program} {w : World} {vf : NestedKey → Int} {C : Addr} {S : List NestedKey} {H H' : Hp} {a : Addr} {xs : List (NestedKey × Addr × Value)}
theorem MDict.mono (h : MDict P w vf S H a xs) (e : H' a = some (.ext (mdP P w a xs))) (t : ∀ b ys, H b = some (.tup ys) → H' b = some (.tup ys)) : MDict P w vf S H' a xs :=
  ⟨h.1, e, h.2.2.1, fun x hx => ⟨(h.2.2.2 x hx).1, (h.2.2.2 x hx).2.1.mono t, (h.2.2.2 x hx).2.2⟩⟩
theorem MDict.same (h : MDict P w vf S H a xs) (s : Same H H') : MDict P w vf S H' a xs := h.mono (s _ _ h.2.1) fun b ys e => s b _ e
theorem memV_ok : MemOk (memV P w vf C S) := fun H H' k a s h => by
  rcases h with (⟨e, xs, h⟩ | ⟨e, dx, m, xs, e2, h⟩) | h
  · exact .inl (.inl ⟨e, xs, h.same s⟩)
  · exact .inl (.inr ⟨e, dx, m, xs, s _ _ e2, h.same s⟩)
  · exact .inr (memL_ok _ _ _ _ s h)
theorem memV_w : MemW (memV P w vf C S) := fun H l zs ys k a hx h => by
  have tt : ∀ b us, H b = some (.tup us) → upd H l (.lst ys) b = some (.tup us) := fun b us e => by rw [upd_ne (ne_of e hx (fun z => nomatch z))]; exact e
  rcases h with (⟨e, xs, h⟩ | ⟨e, dx, m, xs, e2, h⟩) | h
  · exact .inl (.inl ⟨e, xs, h.mono (by rw [upd_ne (ne_of h.2.1 hx (fun z => nomatch z))]; exact h.2.1) tt⟩)
  · exact .inl (.inr ⟨e, dx, m, xs, by rw [upd_ne (ne_of e2 hx (fun z => nomatch z))]; exact e2, h.mono (by rw [upd_ne (ne_of h.2.1 hx (fun z => nomatch z))]; exact h.2.1) tt⟩)
  · exact .inr (memL_w _ _ _ _ _ _ hx h)
/-- an entry more -/
theorem MDict.put {k : NestedKey} {q : Addr} {u : Value} (h : MDict P w vf S H a xs) (hk : k ∈ S) (ka : KAt H (.ref q) k) (kd : k.depth ≤ 8) (ku : ∃ t, u = .int (vf k) t) : MDict P w vf S (upd H a (.ext (mdP P w a (storedH xs k q u)))) a (storedH xs k q u) := by
  have tt : ∀ b us, H b = some (.tup us) → upd H a (.ext (mdP P w a (storedH xs k q u))) b = some (.tup us) := fun b us e => by rw [upd_ne (ne_of e h.2.1 (fun z => nomatch z))]; exact e
  refine ⟨h.1, upd_same, ?_, fun x hx => ?_⟩
  · cases e : atKey xs k with
    | none =>
      rw [storedH_new e, List.map_append, List.nodup_append]
      refine ⟨h.2.2.1, by simp, fun y hy z hz ez => ?_⟩
      have : z = k := by simpa using hz
      subst this; subst ez
      obtain ⟨x, hx, ex⟩ := List.mem_map.mp hy
      have : (xs.find? fun x => decide (x.1 = y)) = none := by
        unfold atKey at e
        exact Option.map_eq_none_iff.mp e
      have := List.find?_eq_none.mp this x hx
      simp [ex] at this
    | some p => rw [storedH_old e, keys_map_putAt]; exact h.2.2.1
  · cases e : atKey xs k with
    | none =>
      rw [storedH_new e] at hx
      rcases List.mem_append.mp hx with hx | hx
      · obtain ⟨a1, a2, a3⟩ := h.2.2.2 x hx
        exact ⟨a1, a2.mono tt, a3⟩
      · have : x = (k, q, u) := by simpa using hx
        subst this
        exact ⟨hk, ka.mono tt, kd, ku⟩
    | some p =>
      rw [storedH_old e] at hx
      obtain ⟨y, hy, rfl⟩ := List.mem_map.mp hx
      obtain ⟨a1, a2, a3, a4⟩ := h.2.2.2 y hy
      unfold putAt
      split
      · rename_i e'
        refine ⟨a1, a2.mono tt, a3, ?_⟩
        show ∃ t, u = .int (vf y.1) t
        rw [e']; exact ku
      · exact ⟨a1, a2.mono tt, a3, a4⟩
theorem kp_put {k : NestedKey} {q : Addr} {u : Value} (h : MDict P w vf S H a xs) (hk : k ∈ S) (ka : KAt H (.ref q) k) (kd : k.depth ≤ 8) (ku : ∃ t, u = .int (vf k) t) : Kp (memV P w vf C S) noA H (upd H a (.ext (mdP P w a (storedH xs k q u)))) := by
  have hp := h.put hk ka kd ku
  have tt : ∀ b us, H b = some (.tup us) → upd H a (.ext (mdP P w a (storedH xs k q u))) b = some (.tup us) := fun b us e => by rw [upd_ne (ne_of e h.2.1 (fun z => nomatch z))]; exact e
  have md : ∀ b ys, MDict P w vf S H b ys → ∃ zs, MDict P w vf S (upd H a (.ext (mdP P w a (storedH xs k q u)))) b zs := fun b ys m => by
    by_cases e : b = a
    · subst e; exact ⟨_, hp⟩
    · exact ⟨ys, m.mono (by rw [upd_ne e]; exact m.2.1) tt⟩
  refine ⟨fun b us _ e => by rw [upd_ne (ne_of e h.2.1 (fun z => nomatch z))]; exact e, fun b o v e => by rw [upd_ne (ne_of e h.2.1 (fun z => nomatch z))]; exact e, tt, fun kk b m => ?_, fun b e => ?_⟩
  · rcases m with (⟨e, ys, m⟩ | ⟨e, dx, l, ys, e2, m⟩) | m
    · obtain ⟨zs, m'⟩ := md b ys m
      exact .inl (.inl ⟨e, zs, m'⟩)
    · obtain ⟨zs, m'⟩ := md l ys m
      exact .inl (.inr ⟨e, dx, l, zs, by rw [upd_ne (ne_of e2 h.2.1 (fun z => nomatch z))]; exact e2, m'⟩)
    · exact .inr (memL_md h.2.1 m)
  · by_cases z : b = a
    · subst z; rw [upd_same] at e; cases e
    · rw [upd_ne z] at e; exact e
theorem atKey_put (xs : List (NestedKey × Addr × Value)) (k : NestedKey) (q : Addr) (u : Value) : (atKey (storedH xs k q u) k).isSome = true := by
  unfold atKey
  rw [Option.isSome_map, List.find?_isSome]
  cases e : atKey xs k with
  | none => rw [storedH_new e]; exact ⟨(k, q, u), by simp, by simp⟩
  | some p =>
    rw [storedH_old e]
    unfold atKey at e
    obtain ⟨x, e1, e2⟩ := Option.map_eq_some_iff.mp e
    have hx := List.mem_of_find?_eq_some e1
    have hk := List.find?_some e1
    refine ⟨putAt k u x, List.mem_map.mpr ⟨x, hx, rfl⟩, ?_⟩
    simp at hk
    unfold putAt
    rw [if_pos hk]
    simpa using hk
/-- no more entries than keys -/
theorem MDict.len (h : MDict P w vf S H a xs) : xs.length ≤ S.length := by
  have key : ∀ (l S : List NestedKey), l.Nodup → (∀ x ∈ l, x ∈ S) → l.length ≤ S.length := by
    intro l
    induction l with
    | nil => intro S _ _; exact Nat.zero_le _
    | cons a l ih =>
      intro S hn hs
      obtain ⟨h1, h2⟩ := List.nodup_cons.mp hn
      have ha := hs a List.mem_cons_self
      have := ih (S.erase a) h2 fun x hx => (List.mem_erase_of_ne (fun e => h1 (by rw [← e]; exact hx))).mpr (hs x (List.mem_cons_of_mem _ hx))
      rw [List.length_erase_of_mem ha] at this
      have : 0 < S.length := List.length_pos_of_mem ha
      rw [List.length_cons]; omega
  have := key (xs.map (·.1)) S h.2.2.1 fun x hx => by
    obtain ⟨y, hy, rfl⟩ := List.mem_map.mp hx
    exact (h.2.2.2 y hy).1
  rw [List.length_map] at this
  exact this
theorem MDict.at {k : NestedKey} {p : Addr × Value} (h : MDict P w vf S H a xs) (e : atKey xs k = some p) : ∃ t, p.2 = .int (vf k) t := by
  unfold atKey at e
  obtain ⟨x, e1, e2⟩ := Option.map_eq_some_iff.mp e
  have hx := List.mem_of_find?_eq_some e1
  have hk := List.find?_some e1
  simp at hk
  obtain ⟨_, _, _, t, ht⟩ := h.2.2.2 x hx
  subst e2
  rw [hk] at ht
  exact ⟨t, ht⟩
theorem MDict.dict {h : Heap} (m : MDict P w vf S H a xs) (O : HOk P w H h) : h.DictOfH (nestedKind P w) a xs := by
  obtain ⟨⟨o, es, ep, h1, h2, h3, h4⟩, _, _⟩ := O _ _ m.2.1
  refine ⟨o, es, ep, h1, h2, h3, h4, fun x hx => ?_, m.2.2.1⟩
  obtain ⟨_, ka, kd, _⟩ := m.2.2.2 x hx
  exact ⟨ka.is O rfl, kd⟩
theorem mdP_ok {h : Heap} (d : h.DictOfH (nestedKind P w) a xs) : ObjOk P w H h a (.ext (mdP P w a xs)) := by
  obtain ⟨o, es, ep, h1, h2, h3, h4, _, _⟩ := d
  exact ⟨⟨o, es, ep, h1, h2, h3, h4⟩, ⟨o, h1⟩, fun h1' h2' ⟨o', es', ep', q1, q2⟩ k => ⟨o', es', ep', k _ q1, q2⟩⟩
end
/-! ### asking it, writing it -/
section
variable {X : Cx} {vf : NestedKey → Int}
def rMemNin (X : Cx) (vf : NestedKey → Int) : R2 := fun x y H Q => ∃ (p a : Addr) (k : NestedKey) (S : List NestedKey) (xs : List (NestedKey × Addr × Value)), x = .ref p ∧ y = .ref a ∧ KAt H (.ref p) k ∧ k.depth ≤ 8 ∧ MDict X.prog X.w vf S H a xs ∧ Q (.bl (!(atKey xs k).isSome)) H
def rMemIx (X : Cx) (vf : NestedKey → Int) : R2 := fun x y H Q => ∃ (p a : Addr) (k : NestedKey) (S : List NestedKey) (xs : List (NestedKey × Addr × Value)) (q : Addr × Value), y = .ref p ∧ x = .ref a ∧ KAt H (.ref p) k ∧ k.depth ≤ 8 ∧ MDict X.prog X.w vf S H a xs ∧ atKey xs k = some q ∧ Q (.int (vf k)) H
def rMemSet (X : Cx) (vf : NestedKey → Int) : V → V → V → Hp → (Hp → Prop) → Prop := fun o i v H Q => ∃ (p a : Addr) (k : NestedKey) (S : List NestedKey) (xs : List (NestedKey × Addr × Value)) (u : Int), o = .ref a ∧ i = .ref p ∧ v = .int u ∧ KAt H (.ref p) k ∧ k.depth ≤ 8 ∧ MDict X.prog X.w vf S H a xs ∧ S.length ≤ 1000000 ∧ ∀ t, Q (upd H a (.ext (mdP X.prog X.w a (storedH xs k p (.int u t)))))
theorem op_memNin (hu : X.A.units + 65 < cLine) : OpR X (compareOp .NotIn) (rMemNin X vf) := by
  intro pins s σ H x y v u Q I rx ry h
  obtain ⟨p, a, k, S, xs, rfl, rfl, ka, kd, m, q⟩ := h
  cases rx
  cases ry
  refine wpAny_notIn_heap (knd := nestedKind X.prog X.w) (show X.A.in1.units + 8 < cLine from ?_) ⟨ka.is I.hok rfl, kd⟩ m.1 (m.dict I.hok) ⟨.bl _, H, I.tok _, rfl, q⟩
  have : X.A.in1.units = X.A.units + 1 := rfl
  omega
theorem ix_mem (hu : X.A.units + 65 < cLine) : IxR X (rMemIx X vf) := by
  intro value slice pins s σ H x y v u Q I rx ry h hs
  obtain ⟨p, a, k, S, xs, q, rfl, rfl, ka, kd, m, e, hq⟩ := h
  cases rx
  cases ry
  have dd := m.dict I.hok
  obtain ⟨t, ht⟩ := m.at e
  refine tail_any dd.typeIs slot_dict_getitem.lookup (wpAny_getItem_heap (knd := nestedKind X.prog X.w) (show X.A.in1.units + 8 < cLine from ?_) ⟨ka.is I.hok rfl, kd⟩ dd e ⟨.int (vf k), H, I.tok _, ⟨t, ht⟩, hq⟩) hs
  have : X.A.in1.units = X.A.units + 1 := rfl
  omega
theorem set_mem (hu : X.A.units + 65 < cLine) : PSet X (rMemSet X vf) := by
  intro pins s σ H o i v ov iv u Q I ro ri rv h
  obtain ⟨p, a, k, S, xs, z, rfl, rfl, rfl, ka, kd, m, hS, q⟩ := h
  cases ro
  cases ri
  obtain ⟨t, rfl⟩ := rv
  have dd := m.dict I.hok
  have hl := m.len
  refine wpAny_setItem_heap (knd := nestedKind X.prog X.w) (show X.A.in1.units + 8 < cLine from ?_) ⟨ka.is I.hok rfl, kd⟩ dd (fun h' hm hs => ?_) (by rw [sizeLine_eq]; omega)
  · have : X.A.in1.units = X.A.units + 1 := rfl
    omega
  · obtain ⟨o, es, ep, h1, _⟩ := id hm
    exact ⟨_, d_write I (by rw [m.2.1]; trivial) hs ⟨o, h1⟩ (mdP_ok hm), q t⟩
/-! ### the three places where it is named -/
def tMr (mr : L2.St → Hp → Addr → Prop) : TE := fun σ H Q => ∃ a, mr σ H a ∧ Q (.ref a) H
end
/-- an expression that names such a dict: mr where it stands, mf its datum -/
structure MRef (K : PySem.W.Frag) (M : Mem) (mr : L2.St → Hp → Addr → Prop) (mf : EF) : Prop where
  cor : ∀ (H0 : Hp) (av0 av : Av) (H : Hp) (σ : L2.St) (ρ : Ev), Cor K M H0 av0 av H σ ρ → mf ρ = some (memD (.int 0)) → ∃ a, mr σ H a ∧ M H (.int 0) a
  up : ∀ (σ : L2.St) (H : Hp) (a : Addr) (φ φ' : Heap → Prop), mr σ H a → H a = some (.ext φ) → mr σ (upd H a (.ext φ')) a
theorem br_mem {K : PySem.W.Frag} {M : Mem} {av : Av} {H : Hp} {v : V} {k : D} (b : Br K M av H v (memD k)) : ∃ a, v = .ref a ∧ M H k a := by
  generalize e : memD k = d at b
  cases b with
  | mem h =>
    have e : PyData.dict [(.none, k)] = PyData.dict [(.none, _)] := e
    cases e
    exact ⟨_, rfl, h⟩
  | @scr a ns h =>
    have e : PyData.dict [(.none, k)] = PyData.dict (ns.map fun n => (.int n, .none)) := e
    cases ns with
    | nil => cases e
    | cons n r => cases e
  | _ => cases e
/-- a name -/
theorem mref_slot {K : PySem.W.Frag} {M : Mem} (j : Nat) : MRef K M (fun σ _ a => σ[j]? = some (some (.ref a))) (cV j) where
  cor := fun H0 av0 av H σ ρ c e => by
    unfold cV at e
    split at e
    · rename_i d e1
      cases e
      obtain ⟨x, h1, v, h2, b⟩ := c.slot j _ e1
      obtain ⟨a, rfl, m⟩ := br_mem b
      exact ⟨a, by rw [h1, h2], m⟩
    · cases e
  up := fun σ H a φ φ' h _ => h
def knownD : D → Option D
  | .dict [(.none, .int 1)] => some (memD (.int 0))
  | _ => none
/-- self.known -/
theorem mref_fld {P : Program} {w : World} {K : PySem.W.Frag} {vf : NestedKey → Int} {C : Addr} {S : List NestedKey} : MRef K (memV P w vf C S) (fun σ H a => ∃ s dx, σ[0]? = some (some (.ref s)) ∧ H s = some (.ins C dx [("known", .ref a)])) (c1 knownD (cV 0)) where
  cor := fun H0 av0 av H σ ρ c e => by
    obtain ⟨d, e1, e2⟩ := bind_some e
    unfold cV at e1
    split at e1
    · rename_i d' e1'
      cases e1
      obtain ⟨x, h1, v, h2, b⟩ := c.slot 0 _ e1'
      have hd : d = memD (.int 1) := by
        unfold knownD at e2
        split at e2
        · rfl
        · cases e2
      subst hd
      obtain ⟨s, rfl, m⟩ := br_mem b
      rcases m with (⟨z, _⟩ | ⟨_, dx, a, xs, h3, h4⟩) | m
      · cases z
      · exact ⟨a, ⟨s, dx, by rw [h1, h2], h3⟩, .inl (.inl ⟨rfl, xs, h4⟩)⟩
      · exact (memL_1 m).elim
    · cases e1
  up := fun σ H a φ φ' ⟨s, dx, h1, h2⟩ h => ⟨s, dx, h1, by rw [upd_ne (ne_of h2 h (fun z => nomatch z))]; exact h2⟩
theorem pe_known {X : Cx} {C : Addr} {e : Expr} {pos : Pos} (c : Cls X.K C) (n : NoAttr X.K C "known") (he : PE X e (tVar 0)) (hb : attributeBase e "known" X.env (eval e X.env) = eval e X.env := by rfl) :
    PE X (.Attribute e "known" pos) (tMr fun σ H a => ∃ s dx, σ[0]? = some (some (.ref s)) ∧ H s = some (.ins C dx [("known", .ref a)])) := PE.imp (pe_fld he hb) fun σ H Q q => by
  obtain ⟨a, ⟨s, dx, h1, h2⟩, q⟩ := q
  exact ⟨_, h1, s, C, dx, _, _, rfl, h2, c, n, rfl, q⟩
theorem pe_mslot {X : Cx} {e : Expr} {j : Nat} (he : PE X e (tVar j)) : PE X e (tMr fun σ _ a => σ[j]? = some (some (.ref a))) := PE.imp he fun σ H Q q => by
  obtain ⟨a, h1, q⟩ := q
  exact ⟨_, h1, q⟩
/-! ### remembered: if key not in m: ..; m[key] = e / return m[key] -/
section
variable {X : Cx} {vf : NestedKey → Int} {C : Addr} {S : List NestedKey} {mr : L2.St → Hp → Addr → Prop} {mf : EF} {i : Nat} {R : Ev → Option (Ev × D)} {F : SF} {ef : EF}
/-- what must hold where the value is at hand -/
def GoodM (vf : NestedKey → Int) (S : List NestedKey) (i : Nat) (mf : EF) (ρ ρL : Ev) (v : D) (ks : List NestedKey) : Prop :=
  mf ρ = some (memD (.int 0)) ∧ mf ρL = some (memD (.int 0)) ∧ cV i ρ = some (NestedKey.tup ks).data ∧ cV i ρL = some (NestedKey.tup ks).data ∧ v = .int (vf (.tup ks)) ∧ (NestedKey.tup ks).depth ≤ 8 ∧ NestedKey.tup ks ∈ S ∧ S.length ≤ 1000000
noncomputable def cMemo (vf : NestedKey → Int) (S : List NestedKey) (i : Nat) (mf : EF) (R : Ev → Option (Ev × D)) : SF := open Classical in fun ρ => match R ρ with
  | some (ρL, v) => if ∃ ks, GoodM vf S i mf ρ ρL v ks then some (.rt v) else none
  | none => none
def mbLast (ef : EF) : Ev → Option (Ev × D) := fun ρ => (ef ρ).bind fun v => some (ρ, v)
def mbCons (F : SF) (R : Ev → Option (Ev × D)) : Ev → Option (Ev × D) := fun ρ => match F ρ with
  | some (.nx ρ') => R ρ'
  | _ => none
def tMB (X : Cx) (vf : NestedKey → Int) (C : Addr) (S : List NestedKey) (mr : L2.St → Hp → Addr → Prop) (mf : EF) (i : Nat) (R : Ev → Option (Ev × D)) : TS := fun Dn σ H => ∃ H0 av0 av ρ ρL v ks, Cor X.K (memV X.prog X.w vf C S) H0 av0 av H σ ρ ∧ R ρ = some (ρL, v) ∧
  mf ρL = some (memD (.int 0)) ∧ cV i ρL = some (NestedKey.tup ks).data ∧ v = .int (vf (.tup ks)) ∧ (NestedKey.tup ks).depth ≤ 8 ∧ NestedKey.tup ks ∈ S ∧ S.length ≤ 1000000 ∧
  ∀ av' σ' H' (p a : Addr) xs, Kp (memV X.prog X.w vf C S) av H H' → (∀ b, av' b → av b ∨ H b = none) → Cor X.K (memV X.prog X.w vf C S) H0 av0 av' H' σ' ρL → mr σ' H' a → σ'[i]? = some (some (.ref p)) → KAt H' (.ref p) (.tup ks) → MDict X.prog X.w vf S H' a xs → (atKey xs (.tup ks)).isSome = true → Dn.nx σ' H'
abbrev FMB (X : Cx) (vf : NestedKey → Int) (C : Addr) (S : List NestedKey) (mr : L2.St → Hp → Addr → Prop) (mf : EF) (i : Nat) (ss : List Stmt) (R : Ev → Option (Ev × D)) : Prop := PSs X ss (tMB X vf C S mr mf i R)
theorem cV_slot {K : PySem.W.Frag} {M : Mem} {H0 : Hp} {av0 av : Av} {H : Hp} {σ : L2.St} {ρ : Ev} {ks : List NestedKey} (c : Cor K M H0 av0 av H σ ρ) (e : cV i ρ = some (NestedKey.tup ks).data) : ∃ p, σ[i]? = some (some (.ref p)) ∧ KAt H (.ref p) (.tup ks) := by
  unfold cV at e
  split at e
  · rename_i d e1
    cases e
    obtain ⟨x, h1, v, h2, b⟩ := c.slot i _ e1
    have ka := KAt.of_br _ _ b
    cases ka with
    | tup e r => exact ⟨_, by rw [h1, h2], .tup e r⟩
  · cases e
theorem fmb_cons {st : Stmt} {rest : List Stmt} (h1 : FS X (memV X.prog X.w vf C S) st F) (h2 : FMB X vf C S mr mf i rest R) : FMB X vf C S mr mf i (st :: rest) (mbCons F R) := PSs.imp (pss_cons h1 h2) fun Dn σ H q => by
  obtain ⟨H0, av0, av, ρ, ρL, v, ks, c, e, g1, g2, g3, g4, g5, g6, post⟩ := q
  unfold mbCons at e
  split at e
  · rename_i ρ' e1
    refine ⟨H0, av0, av, ρ, .nx ρ', c, e1, fun av' σ' H' k1 s1 c1 => ⟨H0, av0, av', ρ', ρL, v, ks, c1, e, g1, g2, g3, g4, g5, g6, fun av2 σ2 H2 p a xs k2 s2 c2 => post av2 σ2 H2 p a xs (k1.step s1 k2) (sub_step k1 s1 s2) c2⟩⟩
  · cases e
theorem fmb_frz (j : Nat) {ss : List Stmt} (h : FMB X vf C S mr mf i ss R) : FMB X vf C S mr mf i ss (mbCons (cFrz j) R) := PSs.imp h fun Dn σ H q => by
  obtain ⟨H0, av0, av, ρ, ρL, v, ks, c, e, g1, g2, g3, g4, g5, g6, post⟩ := q
  unfold mbCons at e
  split at e
  · rename_i ρ' e1
    unfold cFrz at e1
    split at e1
    · rename_i ds h1
      cases e1
      obtain ⟨av', s, c'⟩ := c.frz h1
      exact ⟨H0, av0, av', _, ρL, v, ks, c', e, g1, g2, g3, g4, g5, g6, fun av2 σ2 H2 p a xs k2 s2 c2 => post av2 σ2 H2 p a xs (Kp.refl.step (fun a z => .inl (s a z)) k2) (fun b z => (s2 b z).elim (fun y => .inl (s b y)) .inr) c2⟩
    · cases e1
  · cases e
theorem fmb_last {st : Stmt} (mR : MRef X.K (memV X.prog X.w vf C S) mr mf) (h : PS X st (tAsg (tE X.K (memV X.prog X.w vf C S) ef) (gSub (tMr mr) (tVar i) (rMemSet X vf)))) : FMB X vf C S mr mf i [st] (mbLast ef) := PSs.imp (pss_one h) fun Dn σ H q => by
  obtain ⟨H0, av0, av, ρ, ρL, v, ks, c, e, g1, g2, g3, g4, g5, g6, post⟩ := q
  obtain ⟨v', e1, e⟩ := bind_some e
  cases e
  subst g3
  refine ⟨H0, av0, av, ρ, _, c, e1, fun x H1 k1 b1 => ?_⟩
  have c1 := c.mono k1
  cases b1 with
  | int z =>
    obtain ⟨a, hm, m⟩ := mR.cor _ _ _ _ _ _ c1 g1
    rcases m with (⟨_, xs, m⟩ | ⟨z, _⟩) | mz
    rotate_left 2
    · exact (memL_0 mz).elim
    · obtain ⟨p, hp, ka⟩ := cV_slot c1 g2
      refine ⟨a, hm, .ref p, hp, p, a, .tup ks, S, xs, _, rfl, rfl, rfl, ka, g4, m, g6, fun t => ?_⟩
      have kp := kp_put (C := C) (u := .int (vf (.tup ks)) t) m g5 ka g4 ⟨t, rfl⟩
      have mp := m.put (u := .int (vf (.tup ks)) t) g5 ka g4 ⟨t, rfl⟩
      refine post av σ _ p a _ (k1.trans kp).of sub_refl (c1.mono kp) (mR.up _ _ _ _ _ hm m.2.1) hp (ka.mono kp.tup) mp (atKey_put _ _ _ _)
    · cases z
theorem fss_memo {k1 m1 k3 m3 : Expr} {body : List Stmt} {p1 p2 p3 p4 : Pos} (hu : X.A.units + 65 < cLine) (mR : MRef X.K (memV X.prog X.w vf C S) mr mf) (hk1 : PE X k1 (tVar i)) (hm1 : PE X m1 (tMr mr)) (hB : FMB X vf C S mr mf i body R) (hk3 : PE X k3 (tVar i)) (hm3 : PE X m3 (tMr mr)) (hs : PlainIx k3) (hn : behindInMarks .NotIn m1 = false := by rfl) :
    FSs X (memV X.prog X.w vf C S) [.If (.Compare k1 [.NotIn] [m1] p1) body [] p2, .Return (some (.Subscript m3 k3 p3)) p4] (cMemo vf S i mf R) :=
  PSs.imp (pss_cons (ps_if (pt_cmpR (op_memNin (vf := vf) hu) hk1 hm1 hn) hB pss_nil) (pss_one (ps_ret (pe_ix (ix_mem (vf := vf) hu) hm3 hk3 hs)))) fun Dn σ H q => by
    obtain ⟨H0, av0, av, ρ, o, c, e, post⟩ := q
    unfold cMemo at e
    split at e
    · rename_i ρL v e1
      split at e
      · rename_i hg
        cases e
        obtain ⟨ks, g0, g1, g2, g2', g3, g4, g5, g6⟩ := hg
        subst g3
        obtain ⟨a, hm, m⟩ := mR.cor _ _ _ _ _ _ c g0
        rcases m with (⟨_, xs, m⟩ | ⟨z, _⟩) | mz
        rotate_left 2
        · exact (memL_0 mz).elim
        · obtain ⟨p, hp, ka⟩ := cV_slot c g2
          refine ⟨.ref p, hp, a, hm, p, a, .tup ks, S, xs, rfl, rfl, ka, g4, m, _, rfl, ?_⟩
          cases h : atKey xs (.tup ks) with
          | some z =>
            show tNext _ σ H
            exact ⟨a, hm, .ref p, hp, p, a, .tup ks, S, xs, z, rfl, rfl, ka, g4, m, h, post _ H c.kp (.int _)⟩
          | none =>
            show tMB X vf C S mr mf i R _ σ H
            refine ⟨H0, av0, av, ρ, ρL, _, ks, c, e1, g1, g2', rfl, g4, g5, g6, fun av' σ' H' p' a' xs' k s c' hm' hp' ka' m' h' => ?_⟩
            obtain ⟨z, hz⟩ := Option.isSome_iff_exists.mp h'
            exact ⟨a', hm', .ref p', hp', p', a', .tup ks, S, xs', z, rfl, rfl, ka', g4, m', hz, post _ H' c'.kp (.int _)⟩
        · cases z
      · cases e
    · cases e
end
/-! ### made, and its methods -/
section
variable {X : Cx} {vf : NestedKey → Int} {C : Addr} {S : List NestedKey} {pos : Pos}
theorem pe_dnewX : PE X (.Dict [] [] pos) (fun _ H Q => ∀ p, H p = none → (p == sysModules) = false → Q (.ref p) (upd H p (.ext (mdP X.prog X.w p [])))) := ⟨fun pins s σ H Q I h =>
  wpAny_Dict_empty ⟨.ref s.heap.objs.size, _, I.laid (a := s.heap.objs.size) (o := .ext (mdP X.prog X.w s.heap.objs.size [])) (t' := s.toks) (fun _ _ q => Heap.get?_push_of_some _ q) (Nat.le_refl _) (mdP_ok (Heap.DictOfH.new s.heap)), rfl,
    h _ (I.hok.fresh (Nat.le_refl _)) (beq_eq_false_iff_ne.mpr (Ne.symm (Nat.ne_of_lt I.big)))⟩⟩
theorem mdict_new {P : Program} {w : World} {H : Hp} {p : Addr} (hs : (p == sysModules) = false) (e : H p = some (.ext (mdP P w p []))) : MDict P w vf S H p [] := ⟨hs, e, List.nodup_nil, fun x hx => by cases hx⟩
theorem fe_newD : FE X (memV X.prog X.w vf C S) (.Dict [] [] pos) (cC (memD (.int 0))) := PE.imp pe_dnewX fun σ H Q q => by
  obtain ⟨H0, av0, av, ρ, d, c, e, k⟩ := q
  cases e
  intro p hp hs
  have kn := Kp.new (o := HO.ext (mdP X.prog X.w p [])) (memV_ok (P := X.prog) (w := X.w) (vf := vf) (C := C) (S := S)) hp
  exact k _ _ kn (.mem (.inl (.inl ⟨rfl, [], mdict_new hs upd_same⟩)))
/-- __init__: self.known = {} -/
def spInit (P : Program) (w : World) (C : Addr) : Sp := fun vs H Q _ => ∃ s dx, vs = [.ref s] ∧ H s = some (.ins C dx []) ∧ ∀ m, H m = none → (m == sysModules) = false → Q .non (upd (upd H m (.ext (mdP P w m []))) s (.ins C dx [("known", .ref m)]))
end
theorem init_ok {P : Program} {w : World} {K : PySem.W.Frag} {mg : Str → Option Value} {base : Heap} {C f : Addr} {fd : FuncData} {st : Stmt} {q : Str} {p1 p2 p3 p4 : Pos} (Fn : Fun K "__init__" q st f fd) (Sc : FnScope ["self"] ["self"] (defScope st))
    (hb : defBody st = [.Assign [.Attribute (.Name "self" p1) "known" p2] (.Dict [] [] p3) p4]) (hv : Vis (defScope st) "self") (c : Cls K C) (n : NoAttr K C "known") (hsw : ∀ env, swapsWith (.Dict [] [] p3) (some (.Attribute (.Name "self" p1) "known" p2)) p4.line env = pure false) :
    FnOk P w K mg base CX0 1 f fd ["self"] (spInit P w C) := by
  refine Fn.ok Sc (fun vs H Q E h => ?_) (fun cdv A outer s H vs Q E hr h => ?_)
  · obtain ⟨_, _, rfl, _⟩ := h; rfl
  · obtain ⟨a, dx, rfl, ha, hq⟩ := h
    rw [hb]
    refine ⟨_, pss_one (ps_fld (pe_var (i := 0) rfl hv) pe_dnewX (hsw _)), fun m hm hs => ?_⟩
    have ne : a ≠ m := fun z => by rw [z, hm] at ha; cases ha
    exact ⟨.ref a, rfl, a, C, dx, [], rfl, by rw [upd_ne ne]; exact ha, c, n, by simp, hq m hm hs⟩
section
variable {X : Cx} {vf : NestedKey → Int} {C f : Addr} {S : List NestedKey} {pos p : Pos} {fd : FuncData} {x : Str}
/-- Values() -/
theorem fe_newV (M : Mk X.K C f) (F : FnOk X.prog X.w X.K X.mg X.base CX0 1 f fd ["self"] (spInit X.prog X.w C)) (hb : Binds X.K fd ["self"] []) {j : Nat} (hr : Room j X.A) (hj : 2 ≤ j) (hg : Gl X x) (hm : X.mg x = some (.ref C)) (hdb : (x == ("__debug__" : Str)) = false := by decide) :
    FE X (memV X.prog X.w vf C S) (.Call (.Name x p) [] [] pos) (cC (memD (.int 1))) := PE.imp (pe_make0 (E := E0) M F (hr.mono hj) hg hm hb .nil pass0 hdb) fun σ H Q q => by
  obtain ⟨H0, av0, av, ρ, d, c, e, k⟩ := q
  cases e
  intro a dx ha hdx hne
  refine ⟨a, dx, rfl, upd_same, fun m hm hs => ⟨rfl, ?_⟩⟩
  have nma : m ≠ a := fun z => by rw [z, upd_same] at hm; cases hm
  have nmd : m ≠ dx := fun z => by rw [z, upd_ne hne, upd_same] at hm; cases hm
  have hm0 : H m = none := by rw [upd_ne nma, upd_ne nmd] at hm; exact hm
  have sm : Same H (upd (upd (upd (upd H dx (.own a)) a (.ins C dx [])) m (.ext (mdP X.prog X.w m []))) a (.ins C dx [("known", .ref m)])) := fun b o e => by
    have n1 : b ≠ a := fun z => by rw [z, ha] at e; cases e
    have n2 : b ≠ dx := fun z => by rw [z, hdx] at e; cases e
    have n3 : b ≠ m := fun z => by rw [z, hm0] at e; cases e
    rw [upd_ne n1, upd_ne n3, upd_ne n1, upd_ne n2]; exact e
  exact k _ _ (Kp.same memV_ok sm) (.mem (.inl (.inr ⟨rfl, dx, m, [], upd_same, mdict_new hs (by rw [upd_ne nma, upd_same])⟩)))
end
/-- a method stands in the class, and does as F says -/
structure CalM (P : Program) (w : World) (K : PySem.W.Frag) (mg : Str → Option Value) (base : Heap) (M : Mem) (C : Addr) (m : Str) (k n : Nat) (F : List D → Option D) : Prop where
  ex : ∃ f fd ps, Meth K C m f ∧ Binds K fd ps [] ∧ FnOk P w K mg base CX0 k f fd ps (spF K M (n + 1) F)
def cMeth (n : Nat) (F : List D → Option D) (f0 : EF) (ra : LF) : EF := fun ρ => (f0 ρ).bind fun x => match x with
  | .dict [(.none, .int 1)] => (cArgs n ra ρ).bind fun ds => F (memD (.int 1) :: ds)
  | _ => none
section
variable {X : Cx} {vf : NestedKey → Int} {C : Addr} {S : List NestedKey} {pos apos : Pos} {m : Str} {o e : Expr} {es : List Expr} {f0 : EF} {ra : LF} {F : List D → Option D} {k n j : Nat}
theorem fe_meth {pl : Sem Bool} (cm : CalM X.prog X.w X.K X.mg X.base (memV X.prog X.w vf C S) C m k n F) (cl : Cls X.K C) (hr : Room j X.A) (hk : k ≤ j) (hm : ([("known", V.non)] : List (Str × V)).lookup m = none) (he : FE X (memV X.prog X.w vf C S) o f0) (ha : FA X (memV X.prog X.w vf C S) (e :: es) ra) (hn : (e :: es).length = n := by rfl)
    (hst : starEach (e :: es) X.env = (false, eval e X.env) :: starEach es X.env := by rfl) (hpl : (backTo pos (starEach es X.env)).any (·.1) = false := by rfl)
    (ht : eval (.Call (.Attribute o m apos) (e :: es) [] pos) X.env = (do
      let ov ← eval o X.env
      standAt apos.atName
      let (f, first) ← holding [ov] (getMethod ov m pl)
      callWith pos f first (backTo pos (starEach (e :: es) X.env)) (backToKw pos (keywordEach [] X.env))) := by rfl) :
    FE X (memV X.prog X.w vf C S) (.Call (.Attribute o m apos) (e :: es) [] pos) (cMeth n F f0 ra) := by
  obtain ⟨f, fd, ps, h1, h2, h3⟩ := cm.ex
  refine PE.imp (pe_meth (pl := pl) (E := E0) he cl h1 h3 (hr.mono hk) h2 .nil pass0 ha hst hpl ht) fun σ H Q q => ?_
  obtain ⟨H0, av0, av, ρ, d, c, ev, post⟩ := q
  obtain ⟨x, e1, ev⟩ := bind_some ev
  split at ev
  · obtain ⟨ds, e2, ev⟩ := bind_some ev
    obtain ⟨ds', e3, e2⟩ := bind_some e2
    split at e2
    · rename_i hl
      cases e2
      refine ⟨H0, av0, av, ρ, memD (.int 1), c, e1, fun v H1 k1 b1 => ?_⟩
      obtain ⟨a, rfl, mm⟩ := br_mem b1
      rcases mm with (⟨z, _⟩ | ⟨_, dx, l, xs, h4, h5⟩) | mz
      rotate_left 2
      · exact (memL_1 mz).elim
      · cases z
      · refine ⟨a, dx, _, rfl, h4, ?_, H0, av0, av, ρ, ds, c.mono k1, e3, fun vs H2 k2 b2 => ?_⟩
        · cases hz : (m == ("known" : Str)) with
          | true => simp [List.lookup, hz] at hm
          | false => simp [List.lookup, hz]
        · show spF X.K (memV X.prog X.w vf C S) (n + 1) F (V.ref a :: (vs ++ [])) H2 Q E0
          rw [List.append_nil]
          exact ⟨av, _, d, by rw [List.length_cons, b2.length, hl], .cons (b1.mono k2.of) b2, (c.mono (k1.trans k2)).dom, (c.mono (k1.trans k2)).gl, ev, fun v H' k' b' => post v H' ((k1.trans k2).trans k') b'⟩
    · cases e2
  · cases ev
end
/-! ### recursion -/
theorem fnok_none {P : Program} {w : World} {K : PySem.W.Frag} {mg : Str → Option Value} {base : Heap} {M : Mem} {k n : Nat} {f : Addr} {fd : FuncData} {ps : List Str} (hl : ps.length = n) : FnOk P w K mg base CX0 k f fd ps (spF K M n (fun _ => none)) :=
  ⟨fun vs H Q E h => by obtain ⟨_, _, _, e, _⟩ := h; rw [e, hl], fun A outer s H args us vs Q E hr he hb hv h => by obtain ⟨_, _, _, _, _, _, _, e, _⟩ := h; cases e⟩
theorem cal_mk {P : Program} {w : World} {K : PySem.W.Frag} {mg : Str → Option Value} {base : Heap} {M : Mem} {x : Str} {f : Addr} {fd : FuncData} {ps : List Str} {k n : Nat} {F : List D → Option D} (kp : PySem.W.keepIn K (.ref f) = true) (g : mg x = some (.ref f)) (b : Binds K fd ps []) (ok : FnOk P w K mg base CX0 k f fd ps (spF K M n F)) : Cal P w K mg base M x k n F :=
  ⟨f, fd, ps, g, kp, b, ok⟩
/-- the law's promise: some list of keys holds for this run -/
def spV (P : Program) (w : World) (K : PySem.W.Frag) (vf : NestedKey → Int) (C : Addr) (F : List NestedKey → List D → Option D) : Sp := fun vs H Q E => ∃ S, spF K (memV P w vf C S) 1 (F S) vs H Q E
theorem fnok_ex {P : Program} {w : World} {K : PySem.W.Frag} {mg : Str → Option Value} {base : Heap} {vf : NestedKey → Int} {C : Addr} {k : Nat} {f : Addr} {fd : FuncData} {ps : List Str} {F : List NestedKey → List D → Option D} (h : ∀ S, FnOk P w K mg base CX0 k f fd ps (spF K (memV P w vf C S) 1 (F S))) : FnOk P w K mg base CX0 k f fd ps (spV P w K vf C F) :=
  ⟨fun vs H Q E ⟨S, q⟩ => (h S).len vs H Q E q, fun A outer s H args us vs Q E hr he hb hv ⟨S, q⟩ => (h S).run A outer s H args us vs Q E hr he hb hv q⟩
end G

namespace G
open PySem PySem.Spec PyProof.Rows L2
/-! ## zip of a list and a tuple -/
/-- the list at a and the tuple at b as they stand at each turn, the items in new pairs -/
def ItzLT (K : PySem.W.Frag) (a b : Addr) : It :=
  ⟨fun i H => ∃ (xs ys : List V) (x y : V), SqL K H a xs ∧ SqT K H b ys ∧ xs[i]? = some x ∧ ys[i]? = some y,
    fun i H v H' => ∃ T x y, v = .ref T ∧ H T = none ∧ H' = upd H T (.tup [x, y]) ∧ (∀ xs, SqL K H a xs → xs[i]? = some x) ∧ ∀ ys, SqT K H b ys → ys[i]? = some y,
    fun i H => ∃ xs ys : List V, SqL K H a xs ∧ SqT K H b ys ∧ (xs.length ≤ i ∨ ys.length ≤ i)⟩
/-- an iterator that is at its end -/
theorem draws_endL {prog : Program} {w : World} {A : Around} (hh : A.handled = none) (it l : Addr) {items : Array Value} {i : Nat} (hi : items[i]? = none) : Draws prog w A it [it, l] i (fun _ _ => False) (fun j h => j = i ∧ h.IsListIter it l i ∧ h.IsList l items) where
  live := fun _ _ st => let ⟨o, ho, _⟩ := st.2.1; ⟨o, ho⟩
  frame := fun _ _ _ st hk => ⟨st.1, st.2.1.at fun o e => hk it (by simp) o e, st.2.2.at fun o e => hk l (by simp) o e⟩
  item := fun j s Q E hlt st hQ => by have := st.1; omega
  done := fun s Q E st hE => wpAny_nextOf_list_end hh st.2.1 st.2.2 hi hE
theorem draws_endT {prog : Program} {w : World} {A : Around} (hh : A.handled = none) (it l : Addr) {items : Array Value} {i : Nat} (hi : items[i]? = none) : Draws prog w A it [it, l] i (fun _ _ => False) (fun j h => j = i ∧ h.IsTupleIter it l i ∧ h.IsTuple l items) where
  live := fun _ _ st => let ⟨o, ho, _⟩ := st.2.1; ⟨o, ho⟩
  frame := fun _ _ _ st hk => ⟨st.1, st.2.1.at fun o e => hk it (by simp) o e, st.2.2.at fun o e => hk l (by simp) o e⟩
  item := fun j s Q E hlt st hQ => by have := st.1; omega
  done := fun s Q E st hE => wpAny_nextOf_tuple_end hh st.2.1 st.2.2 hi hE
theorem turn_zipLT {P : Program} {w : World} {K : PySem.W.Frag} {elts : List Expr} {kk : Nat} {tpos : Pos} {a b z TI TO i1 i2 : Addr} (S : ZipSep2 z TI TO i1 i2 [i1, a] [i2, b]) :
    Turn P w K (.Tuple elts kk tpos) (ItzLT K a b) [z, TI, TO, i1, i2] z (fun i h => IsZip h z TI TO .none ∧ IsTupOf2 h TI (.ref i1) (.ref i2) ∧ (∃ x y, IsTupOf2 h TO x y) ∧ h.IsListIter i1 a i ∧ h.IsTupleIter i2 b i) where
  mem := by simp
  obj := fun i h st c hc => by
    obtain ⟨hz, hTI, ⟨x, y, hTO⟩, ⟨o1, e1, _, d1⟩, ⟨o2, e2, _, d2⟩⟩ := st
    simp only [List.mem_cons, List.not_mem_nil, or_false] at hc
    rcases hc with q | q | q | q | q <;> subst q
    · exact ⟨_, hz, fun v q => nomatch q⟩
    · exact ⟨_, hTI, fun v q => nomatch q⟩
    · exact ⟨_, hTO, fun v q => nomatch q⟩
    · exact ⟨o1, e1, fun v q => by rw [d1] at q; cases q⟩
    · exact ⟨o2, e2, fun v q => by rw [d2] at q; cases q⟩
  keep := fun i h h' st k => by
    obtain ⟨hz, hTI, ⟨x, y, hTO⟩, h1, h2⟩ := st
    exact ⟨k z (by simp) _ hz, k TI (by simp) _ hTI, ⟨x, y, k TO (by simp) _ hTO⟩, h1.at fun o q => k i1 (by simp) o q, h2.at fun o q => k i2 (by simp) o q⟩
  item := by
    intro X hP hw hK hc i pins s σ H E I hf st hg
    subst hP hw hK
    obtain ⟨hz, hTI, ⟨x0, y0, hTO⟩, h1, h2⟩ := st
    obtain ⟨xs, ys, x, y, hqx, hqy, hx, hy⟩ := hg
    obtain ⟨its, rv, p, _⟩ := I.list hqx
    obtain ⟨its2, rv2, p2, _⟩ := I.tuple hqy
    obtain ⟨u, hu, ru⟩ := rv.get hx
    obtain ⟨u2, hu2, ru2⟩ := rv2.get hy
    have hh : X.A.in1.handled = none := I.ok.hd hc
    have ne1 : a ≠ i1 := fun q => by
      obtain ⟨o1, e1, c1, _⟩ := h1
      obtain ⟨o, e, c, _⟩ := p.isList
      rw [q, e1] at e
      cases e
      rw [c1] at c; exact absurd (Value.type.inj c) (by decide)
    have ne2 : b ≠ i2 := fun q => by
      obtain ⟨o1, e1, c1, _⟩ := h2
      obtain ⟨o, e, c, _⟩ := p2
      rw [q, e1] at e
      cases e
      rw [c1] at c; exact absurd (Value.type.inj c) (by decide)
    refine wpAny_pyNext_zipD2_item S (Draws.list hh i1 a ne1 its.toArray) (Draws.tuple hh i2 b ne2 its2.toArray) hz hTI hTO ⟨h1, p.isList⟩ ⟨h2, p2⟩ (by have := (List.getElem?_eq_some_iff.mp hu).1; simpa using this) (by have := (List.getElem?_eq_some_iff.mp hu2).1; simpa using this) fun x1 x2 h' tk y1 y2 z' TO' d1 d2 hT hsz hk => ?_
    have ex1 : x1 = u := by
      have : its[i]? = some x1 := by simpa using y1
      rw [hu] at this; exact (Option.some.inj this).symm
    have ex2 : x2 = u2 := by
      have : its2[i]? = some x2 := by simpa using y2
      rw [hu2] at this; exact (Option.some.inj this).symm
    subst ex1 ex2
    have hzl : z < s.heap.objs.size := Heap.lt_size hz
    refine ⟨_, rfl, wpAny_letOwnedTupleGo_zip (s := { s with heap := h', toks := tk }) z' fun h'' z'' sb => ?_⟩
    have hT2 : h''.get? s.heap.objs.size = some { cls := .type "tuple", data := .seq #[x1, x2] } := (sb.2 _ (Nat.ne_of_gt hzl)).trans hT
    have new : ObjOk X.prog X.w (upd H s.heap.objs.size (.tup [x, y])) h'' s.heap.objs.size (.tup [x, y]) :=
      ⟨by show 2 ≤ sizeLine; decide, [x1, x2], .cons ru (.cons ru2 .nil), ⟨_, hT2, rfl, _, rfl⟩⟩
    have I1 : Inv X pins σ (upd H s.heap.objs.size (.tup [x, y])) { s with heap := h'', toks := tk } :=
      I.turnedNew (t' := tk) (ch := [z, TI, TO, i1, i2]) (fun c o hb q => (sb.2 c (fun q' => hb (by simp [q']))).trans (hk c o (fun q' => hb (by simp [q'])) (fun q' => hb (by simp [q'])) (fun q' => hb (by simp [q'])) (fun q' => hb (by simp [q'])) q)) hf (Nat.le_refl _) new
    refine ⟨.ref s.heap.objs.size, _, I1, rfl, ⟨_, x, y, rfl, I.hok.fresh (Nat.le_refl _), rfl, fun l hl => ?_, fun l hl => by rw [I.tuple_inj hl hqy]; exact hy⟩, ⟨z'', (sb.2 _ S.TIz).trans (hk _ _ S.TIz S.TITO S.TIi1 S.TIi2 hTI), ⟨x1, x2, (sb.2 _ S.TOz).trans TO'⟩, d1.1.at fun o q => (sb.2 _ S.zi1.symm).trans q, d2.1.at fun o q => (sb.2 _ S.zi2.symm).trans q⟩, fun c hcm => ?_⟩
    · rw [I.list_inj hl hqx]; exact hx
    · have hlt : c < s.heap.objs.size := by
        have e' : c = z ∨ c = TI ∨ c = TO ∨ c = i1 ∨ c = i2 := by simpa using hcm
        rcases e' with q | q | q | q | q
        · rw [q]; exact hzl
        · rw [q]; exact Heap.lt_size hTI
        · rw [q]; exact Heap.lt_size hTO
        · rw [q]; obtain ⟨_, e1, _⟩ := h1; exact Heap.lt_size e1
        · rw [q]; obtain ⟨_, e2, _⟩ := h2; exact Heap.lt_size e2
      rw [upd_ne (Nat.ne_of_lt hlt)]
      exact (hf c hcm).1
  done := by
    intro X hP hw hK hc i pins s σ H E I hf st hg
    subst hP hw hK
    obtain ⟨hz, hTI, ⟨x0, y0, hTO⟩, h1, h2⟩ := st
    obtain ⟨xs, ys, hqx, hqy, hend⟩ := hg
    obtain ⟨its, rv, p, _⟩ := I.list hqx
    obtain ⟨its2, rv2, p2, _⟩ := I.tuple hqy
    have l1 := rv.length
    have l2 := rv2.length
    have hh : X.A.in1.handled = none := I.ok.hd hc
    have ne1 : a ≠ i1 := fun q => by
      obtain ⟨o1, e1, c1, _⟩ := h1
      obtain ⟨o, e, c, _⟩ := p.isList
      rw [q, e1] at e
      cases e
      rw [c1] at c; exact absurd (Value.type.inj c) (by decide)
    have ne2 : b ≠ i2 := fun q => by
      obtain ⟨o1, e1, c1, _⟩ := h2
      obtain ⟨o, e, c, _⟩ := p2
      rw [q, e1] at e
      cases e
      rw [c1] at c; exact absurd (Value.type.inj c) (by decide)
    have fin : ∀ h' tk, (∀ c o, c ≠ z → c ≠ TO → c ≠ i1 → c ≠ i2 → s.heap.get? c = some o → h'.get? c = some o) → (none : Option Value) = none ∧ Inv X pins σ H { s with heap := h', toks := tk } := fun h' tk hk => ⟨rfl, I.turnedL (t' := tk) (ch := [z, TI, TO, i1, i2]) (fun c o hb q =>
      hk c o (fun q' => hb (by simp [q'])) (fun q' => hb (by simp [q'])) (fun q' => hb (by simp [q'])) (fun q' => hb (by simp [q'])) q) hf⟩
    by_cases q1 : xs.length ≤ i
    · have g1 : its.toArray[i]? = none := by simp; omega
      by_cases q2 : ys.length ≤ i
      · have g2 : its2.toArray[i]? = none := by simp; omega
        exact wpAny_pyNext_zipD2_end S (draws_endL hh i1 a g1) (draws_endT hh i2 b g2) hz hTI hTO ⟨rfl, h1, p.isList⟩ ⟨rfl, h2, p2⟩ (Nat.le_refl _) (Nat.le_refl _) (.inl rfl) fin
      · exact wpAny_pyNext_zipD2_end S (draws_endL hh i1 a g1) (Draws.tuple hh i2 b ne2 its2.toArray) hz hTI hTO ⟨rfl, h1, p.isList⟩ ⟨h2, p2⟩ (Nat.le_refl _) (by simp; omega) (.inl rfl) fin
    · have q2 : ys.length ≤ i := hend.resolve_left q1
      have g2 : its2.toArray[i]? = none := by simp; omega
      exact wpAny_pyNext_zipD2_end S (Draws.list hh i1 a ne1 its.toArray) (draws_endT hh i2 b g2) hz hTI hTO ⟨h1, p.isList⟩ ⟨rfl, h2, p2⟩ (by simp; omega) (Nat.le_refl _) (.inr rfl) fin
  self := fun A i s Q E st h => wpAny_pyIter_zip st.1 h
def iZipLT (K : PySem.W.Frag) (ta : TA) : TI := fun σ H R => ta σ H fun vs H1 => ∃ a b xs ys, vs = [.ref a, .ref b] ∧ SqL K H1 a xs ∧ SqT K H1 b ys ∧ R (ItzLT K a b) H1
theorem pi_zipLT {X : Cx} {e e2 : Expr} {ta : TA} {p pos tpos : Pos} {elts : List Expr} {kk : Nat} (hg : Gl X "zip") (hm : X.mg "zip" = none) (ha : PA X [e, e2] ta)
    (hs : starEach [e, e2] X.env = (false, eval e X.env) :: starEach [e2] X.env := by rfl) (hpl : (backTo pos (starEach [e2] X.env)).any (·.1) = false := by rfl) :
    PI X (.Tuple elts kk tpos) (.Call (.Name "zip" p) [e, e2] [] pos) (iZipLT X.K ta) := by
  refine ⟨fun pins s σ H R I h => ?_⟩
  refine Call_ (ld_blt I hg hm PyProof.Rows.boot_zip (PyProof.Rows.callWith_type1 (thn (ha.run pos pins s σ H _ I h) fun us s1 ⟨vs, H1, I1, r1, q1⟩ => ?_) hs hpl))
  obtain ⟨a, b, xs, ys, rfl, hqx, hqy, q⟩ := q1
  cases r1 with
  | cons r rr =>
    cases rr with
    | cons r' rr =>
      cases rr
      cases r
      cases r'
      have fresh5 : ∀ c, c ∈ [s1.heap.objs.size + 4, s1.heap.objs.size + 2, s1.heap.objs.size + 3, s1.heap.objs.size, s1.heap.objs.size + 1] → FpOk X pins H1 c := fun c hcm => by
        have hle : s1.heap.objs.size ≤ c := by
          simp only [List.mem_cons, List.not_mem_nil, or_false] at hcm
          omega
        exact I1.fpOk hle (I1.hok.fresh hle)
      obtain ⟨its, rv, p1, _⟩ := I1.list hqx
      obtain ⟨its2, rv2, p2, _⟩ := I1.tuple hqy
      obtain ⟨o2, ho2, _⟩ := id p2
      have la := p1.lt
      have lb := Heap.lt_size ho2
      refine zip_begins2 (begins_list a its.toArray) (begins_tuple b its2.toArray) p1.isList p2 fun h' hz hTI hTO h1 h2 hsz hk => wpAny_pyIter_zip hz ?_
      have I2 : Inv X pins σ H1 { s1 with heap := h' } := I1.kept (t' := s1.toks) hk
      have S : ZipSep2 (s1.heap.objs.size + 4) (s1.heap.objs.size + 2) (s1.heap.objs.size + 3) s1.heap.objs.size (s1.heap.objs.size + 1) [s1.heap.objs.size, a] [s1.heap.objs.size + 1, b] := by
        have la' : @LT.lt Nat _ a s1.heap.objs.size := la
        have lb' : @LT.lt Nat _ b s1.heap.objs.size := lb
        refine ⟨?_, ?_, ?_, ?_, by simp, ?_, ?_, ?_, by simp, ?_, ?_, ?_, ?_⟩ <;> intro e <;> first
          | (have e' : (_ : Nat) = _ := e; omega)
          | (simp only [List.mem_cons, List.not_mem_nil, or_false] at e
             rcases e with e | e <;> (have e' : (_ : Nat) = _ := e; omega))
      exact ⟨s1.heap.objs.size + 4, [s1.heap.objs.size + 4, s1.heap.objs.size + 2, s1.heap.objs.size + 3, s1.heap.objs.size, s1.heap.objs.size + 1], _, _, H1, rfl, I2, turn_zipLT S, ⟨hz, hTI, ⟨_, _, hTO⟩, ⟨_, h1, rfl, rfl⟩, ⟨_, h2, rfl, rfl⟩⟩, fresh5, q⟩
def cZipLT (r : LF) : LF := fun ρ => (r ρ).bind fun ds => match ds with
  | [.list xs, .tuple ys] => some (zipL xs ys)
  | _ => none
def cZipTT (r : LF) : LF := fun ρ => (r ρ).bind fun ds => match ds with
  | [.tuple xs, .tuple ys] => some (zipL xs ys)
  | _ => none
theorem zipL_len : ∀ (xs ys : List D), (zipL xs ys).length = min xs.length ys.length
  | [], ys => by simp [zipL]
  | x :: xs, [] => by simp [zipL]
  | x :: xs, y :: ys => by
    show (zipL xs ys).length + 1 = _
    rw [zipL_len xs ys]; simp
section
variable {X : Cx} {M : Mem} {e e2 : Expr} {p pos tpos : Pos} {elts : List Expr} {kk : Nat} {r : LF}
theorem fi_zipLT (hM : MemOk M) (hg : Gl X "zip") (hm : X.mg "zip" = none) (ha : FA X M [e, e2] r) (hs : starEach [e, e2] X.env = (false, eval e X.env) :: starEach [e2] X.env := by rfl) (hpl : (backTo pos (starEach [e2] X.env)).any (·.1) = false := by rfl) :
    FI X M (.Tuple elts kk tpos) (.Call (.Name "zip" p) [e, e2] [] pos) (cZipLT r) :=
  PI.imp (pi_zipLT hg hm ha hs hpl) fun σ H R q => by
    obtain ⟨H0, av0, av, ρ, ds, c, ev, k⟩ := q
    obtain ⟨d, e1, ev⟩ := bind_some ev
    split at ev
    · rename_i xs ys
      cases ev
      refine ⟨H0, av0, av, ρ, _, c, e1, fun vs H1 k1 b1 => ?_⟩
      cases b1 with
      | cons b1 r1 =>
        cases r1 with
        | cons b2 r2 =>
          cases r2
          cases b1 with
          | lst hx n bx =>
            cases b2 with
            | tup hy by_ =>
              rename_i a us b ws
              refine ⟨a, b, us, ws, rfl, SqL.of hx, SqT.of hy, k _ _ k1 ?_⟩
              intro i av' H2 s hd kk'
              have h2 : H2 a = some (.lst us) := kk'.lst a us n hx
              have h3 : H2 b = some (.tup ws) := kk'.tup b ws hy
              refine ⟨fun d g => ?_, fun g => ?_⟩
              · rw [zipL_get] at g
                split at g
                · rename_i x y gx gy
                  cases g
                  obtain ⟨v1, ev1, bv1⟩ := bx.get gx
                  obtain ⟨v2, ev2, bv2⟩ := by_.get gy
                  refine ⟨⟨us, ws, v1, v2, SqL.of h2, SqT.of h3, ev1, ev2⟩, fun x' H3 y' => ?_⟩
                  obtain ⟨T, x1, y1, rfl, nT, rfl, fx, fy⟩ := y'
                  have e3 := fx us (SqL.of h2)
                  have e4 := fy ws (SqT.of h3)
                  rw [ev1] at e3
                  rw [ev2] at e4
                  cases e3
                  cases e4
                  have kn := Kp.new (o := HO.tup [v1, v2]) hM nT
                  exact ⟨kn, .tup upd_same (.cons ((bv1.later s kk').mono kn.of) (.cons ((bv2.later s kk').mono kn.of) .nil))⟩
                · cases g
              · have hl := zipL_len xs ys
                have hge : (zipL xs ys).length ≤ i := List.getElem?_eq_none_iff.mp g
                refine ⟨us, ws, SqL.of h2, SqT.of h3, ?_⟩
                rw [bx.length, by_.length]
                omega
    · cases ev
theorem fi_zipTT (hM : MemOk M) (hg : Gl X "zip") (hm : X.mg "zip" = none) (ha : FA X M [e, e2] r) (hs : starEach [e, e2] X.env = (false, eval e X.env) :: starEach [e2] X.env := by rfl) (hpl : (backTo pos (starEach [e2] X.env)).any (·.1) = false := by rfl) :
    FI X M (.Tuple elts kk tpos) (.Call (.Name "zip" p) [e, e2] [] pos) (cZipTT r) :=
  PI.imp (RZ.pi_zipA hg hm ha hs hpl) fun σ H R q => by
    obtain ⟨H0, av0, av, ρ, ds, c, ev, k⟩ := q
    obtain ⟨d, e1, ev⟩ := bind_some ev
    split at ev
    · rename_i xs ys
      cases ev
      refine ⟨H0, av0, av, ρ, _, c, e1, fun vs H1 k1 b1 => ?_⟩
      cases b1 with
      | cons b1 r1 =>
        cases r1 with
        | cons b2 r2 =>
          cases r2
          cases b1 with
          | tup hx bx =>
            cases b2 with
            | tup hy by_ =>
              rename_i a us b ws
              refine ⟨a, b, us, ws, rfl, .inr ⟨SqT.of hx, SqT.of hy, k _ _ k1 ?_⟩⟩
              intro i av' H2 s hd kk'
              have h2 : H2 a = some (.tup us) := kk'.tup a us hx
              have h3 : H2 b = some (.tup ws) := kk'.tup b ws hy
              refine ⟨fun d g => ?_, fun g => ?_⟩
              · rw [zipL_get] at g
                split at g
                · rename_i x y gx gy
                  cases g
                  obtain ⟨v1, ev1, bv1⟩ := bx.get gx
                  obtain ⟨v2, ev2, bv2⟩ := by_.get gy
                  refine ⟨⟨us, ws, v1, v2, SqT.of h2, SqT.of h3, ev1, ev2⟩, fun x' H3 y' => ?_⟩
                  obtain ⟨T, x1, y1, rfl, nT, rfl, fx, fy⟩ := y'
                  have e3 := fx us (SqT.of h2)
                  have e4 := fy ws (SqT.of h3)
                  rw [ev1] at e3
                  rw [ev2] at e4
                  cases e3
                  cases e4
                  have kn := Kp.new (o := HO.tup [v1, v2]) hM nT
                  exact ⟨kn, .tup upd_same (.cons ((bv1.later s kk').mono kn.of) (.cons ((bv2.later s kk').mono kn.of) .nil))⟩
                · cases g
              · have hl := zipL_len xs ys
                have hge : (zipL xs ys).length ≤ i := List.getElem?_eq_none_iff.mp g
                refine ⟨us, ws, SqT.of h2, SqT.of h3, ?_⟩
                rw [bx.length, by_.length]
                omega
    · cases ev
end
end G

namespace G
open PySem PySem.Spec PyProof.Rows L2
/-! ## a heap without one of its entries, and with it again -/
section
variable {K : PySem.W.Frag} {P : Program} {w : World} {H H' : Hp} {h h' : Heap} {cc : Addr} {oc : Obj}
def dropH (H : Hp) (cc : Addr) : Hp := fun b => if b = cc then none else H b
theorem drop_ne {b : Addr} (n : b ≠ cc) : dropH H cc b = H b := if_neg n
theorem drop_same : dropH H cc cc = none := if_pos rfl
theorem drop_some {b : Addr} {o : HO} (e : dropH H cc b = some o) : b ≠ cc ∧ H b = some o := by
  by_cases z : b = cc
  · rw [z, drop_same] at e; cases e
  · rw [drop_ne z] at e; exact ⟨z, e⟩
theorem drop_at {b : Addr} {o : HO} (e : H cc = some (.frz oc uAny)) (q : H b = some o) (n : o ≠ .frz oc uAny) : dropH H cc b = some o := by rw [drop_ne (ne_of q e n)]; exact q
theorem drop_none {b : Addr} (q : H b = none) : dropH H cc b = none := by
  by_cases z : b = cc
  · rw [z]; exact drop_same
  · rw [drop_ne z]; exact q
theorem hok_drop (x : HOk P w H h) (e : H cc = some (.frz oc uAny)) : HOk P w (dropH H cc) h := fun a o q => by
  obtain ⟨_, q⟩ := drop_some q
  exact (x a o q).stay (fun _ _ _ z => z) (fun b z => drop_at e z (fun y => nomatch y)) (fun b xs z => drop_at e z (fun y => nomatch y))
theorem hok_back (x : HOk P w H' h) (n : H' cc = none) (g : h.get? cc = some oc) : HOk P w (upd H' cc (.frz oc uAny)) h :=
  L2.HOk.laidN x (fun _ _ z => z) n ⟨g, True.intro, ⟨_, g⟩, fun _ _ _ _ => True.intro⟩
theorem un_back {fs : List Addr} (u : Un fs [] (dropH H cc) H' h h') (e : H cc = some (.frz oc uAny)) : Un fs [] H (upd H' cc (.frz oc uAny)) h h' where
  keep := fun b o q n hf hx => u.keep b o q (drop_none n) hf hx
  slot := fun b o q n hf hx => u.slot b o q (drop_none n) hf hx
  free := fun b o q n hx => by rw [upd_ne (fun z => by rw [z, e] at n; cases n)]; exact u.free b o q (drop_none n) hx
  there := u.there
  tups := fun b xs q => by rw [upd_ne (ne_of q e (fun y => nomatch y))]; exact u.tups b xs (drop_at e q (fun y => nomatch y))
  frzs := fun b o v q => by
    by_cases z : b = cc
    · rw [z, e] at q; cases q; rw [z]; exact upd_same
    · rw [upd_ne z]; exact u.frzs b o v (by rw [drop_ne z]; exact q)
  tbls := fun b ps q => by
    obtain ⟨more, m⟩ := u.tbls b ps (drop_at e q (fun y => nomatch y))
    exact ⟨more, by rw [upd_ne (ne_of q e (fun y => nomatch y))]; exact m⟩
/-- and the other way: an entry more, of an object that nobody writes -/
theorem un_fore {fs : List Addr} (u : Un fs [] (upd H cc (.frz oc uAny)) H' h h') (n : H cc = none) (g : h.get? cc = some oc) (g' : h'.get? cc = some oc) (hf : cc ∉ fs) : Un fs [] H (dropH H' cc) h h' where
  keep := fun b o q m hb hx => by
    by_cases z : b = cc
    · subst z; rw [g] at q; cases q; exact g'
    · exact u.keep b o q (by rw [upd_ne z]; exact m) hb hx
  slot := fun b o q m hb hx => by
    by_cases z : b = cc
    · subst z; exact absurd hb hf
    · exact u.slot b o q (by rw [upd_ne z]; exact m) hb hx
  free := fun b o q m hx => by
    by_cases z : b = cc
    · rw [z]; exact drop_same
    · exact drop_none (u.free b o q (by rw [upd_ne z]; exact m) hx)
  there := u.there
  tups := fun b xs q => by
    have z : b ≠ cc := ne_of_none q n
    rw [drop_ne z]; exact u.tups b xs (by rw [upd_ne z]; exact q)
  frzs := fun b o v q => by
    have z : b ≠ cc := ne_of_none q n
    rw [drop_ne z]; exact u.frzs b o v (by rw [upd_ne z]; exact q)
  tbls := fun b ps q => by
    have z : b ≠ cc := ne_of_none q n
    obtain ⟨more, m⟩ := u.tbls b ps (by rw [upd_ne z]; exact q)
    exact ⟨more, by rw [drop_ne z]; exact m⟩
end
section
variable [L : LamOf] {K : PySem.W.Frag} {P : Program} {w : World} {vf : NestedKey → Int} {C : Addr} {S : List NestedKey} {H H' : Hp} {cc : Addr} {oc : Obj} {av : Av}
theorem mem79 {c : Addr} (m : memV P w vf C S H (.int 79) c) : H c = some (LamX.CodeO c lamQ) := by
  rcases m with (⟨z, _⟩ | ⟨z, _⟩) | ⟨z, _⟩ | ⟨_, m⟩ | ⟨_, z, _⟩ | ⟨_, _, z, _⟩
  · cases z
  · cases z
  · cases z
  · exact m
  · cases z
  · cases z
theorem mem77 {c : Addr} (m : memV P w vf C S H (.int 77) c) : LamX.TabS H c lamQ := by
  rcases m with (⟨z, _⟩ | ⟨z, _⟩) | ⟨_, m⟩ | ⟨z, _⟩ | ⟨_, z, _⟩ | ⟨_, _, z, _⟩
  · cases z
  · cases z
  · exact m
  · cases z
  · cases z
  · cases z
theorem mem78 {n : Int} {f : Addr} (m : memV P w vf C S H (.tuple [.int 78, .int n]) f) : ∃ cc : Nat, LamAt H f cc ∧ CellAt H cc n := by
  rcases m with (⟨z, _⟩ | ⟨z, _⟩) | ⟨z, _⟩ | ⟨z, _⟩ | ⟨_, z, _⟩ | ⟨n', c, z, m1, m2⟩
  · cases z
  · cases z
  · cases z
  · cases z
  · cases z
  · cases z; exact ⟨c, m1, m2⟩
theorem mem80 {c : Nat} {f : Addr} (m : memV P w vf C S H (.tuple [.int 80, .int c]) f) : LamAt H f c := by
  rcases m with (⟨z, _⟩ | ⟨z, _⟩) | ⟨z, _⟩ | ⟨z, _⟩ | ⟨c', z, m⟩ | ⟨_, _, z, _⟩
  · cases z
  · cases z
  · cases z
  · cases z
  · have e : c = c' := by
      have := PyData.tuple.inj z
      simp only [List.cons.injEq, PyData.int.injEq, true_and, and_true] at this
      omega
    rw [e]; exact m
  · cases z
theorem code_frz {b c : Addr} {u : HO} {o : Obj} (h1 : H b = some (LamX.CodeO b lamQ)) (h2 : H c = some (.frz o u)) : b ≠ c := fun z => by
  rw [z, h2] at h1
  unfold LamX.CodeO at h1
  cases h1
theorem code_drop {b : Addr} (e : H cc = some (.frz oc uAny)) (h1 : H b = some (LamX.CodeO b lamQ)) : dropH H cc b = some (LamX.CodeO b lamQ) := by rw [drop_ne (code_frz h1 e)]; exact h1
theorem tab_drop {b : Addr} (e : H cc = some (.frz oc uAny)) (h1 : LamX.TabS H b lamQ) : LamX.TabS (dropH H cc) b lamQ := by
  obtain ⟨ps, a1, a2, a3⟩ := h1
  refine ⟨ps, drop_at e a1 (fun y => nomatch y), a2, fun pos cv q => ?_⟩
  obtain ⟨c, e1, e2⟩ := a3 pos cv q
  exact ⟨c, e1, code_drop e e2⟩
theorem mem0_drop {k : D} {a : Addr} (e : H cc = some (.frz oc uAny)) (m : memV0 P w vf C S H k a) : memV0 P w vf C S (dropH H cc) k a := by
  have tt : ∀ b us, H b = some (.tup us) → dropH H cc b = some (.tup us) := fun b us q => drop_at e q (fun y => nomatch y)
  rcases m with ⟨z, xs, m⟩ | ⟨z, dx, l, xs, e2, m⟩
  · exact .inl ⟨z, xs, m.mono (drop_at e m.2.1 (fun y => nomatch y)) tt⟩
  · exact .inr ⟨z, dx, l, xs, drop_at e e2 (fun y => nomatch y), m.mono (drop_at e m.2.1 (fun y => nomatch y)) tt⟩
theorem gl_drop (e : H cc = some (.frz oc uAny)) (g : GL K (memV P w vf C S) H) : GL K (memV P w vf C S) (dropH H cc) := fun TP h => .inr (.inl ⟨rfl, tab_drop e (mem77 (g TP h))⟩)
/-- what stands still, stands in the end -/
theorem kp_back (e : H cc = some (.frz oc uAny)) (k : Kp (memV P w vf C S) noA (dropH H cc) H') (n : H' cc = none) : Kp (memV P w vf C S) noA H (upd H' cc (.frz oc uAny)) := by
  have same : Same H' (upd H' cc (.frz oc uAny)) := same_new n
  have hf : ∀ b o u, H b = some (.frz o u) → upd H' cc (.frz oc uAny) b = some (.frz o u) := fun b o u q => by
    by_cases z : b = cc
    · rw [z, e] at q; cases q; rw [z]; exact upd_same
    · exact same _ _ (k.frz b o u (by rw [drop_ne z]; exact q))
  have hc : ∀ c, H c = some (LamX.CodeO c lamQ) → upd H' cc (.frz oc uAny) c = some (LamX.CodeO c lamQ) := fun c q =>
    same _ _ (mem79 (k.mm (.int 79) c (.inr (.inr (.inl ⟨rfl, code_drop e q⟩)))))
  have la : ∀ f c, LamAt H f c → LamAt (upd H' cc (.frz oc uAny)) f c := fun f c ⟨cl, pm, c', ctv, h1, h2, h3⟩ => ⟨cl, pm, c', ctv, hf _ _ _ h1, hc _ h2, h3⟩
  refine ⟨fun a xs nv q => same _ _ (k.lst a xs nv (drop_at e q (fun y => nomatch y))), hf, fun a xs q => same _ _ (k.tup a xs (drop_at e q (fun y => nomatch y))), fun kk a m => ?_, fun a q => ?_⟩
  · rcases m with m | ⟨z, m⟩ | ⟨z, m⟩ | ⟨c, z, m⟩ | ⟨n', c, z, m1, o, t, m2, m3⟩
    · exact memV_ok _ _ _ _ same (k.mm kk a (.inl (mem0_drop e m)))
    · exact memV_ok _ _ _ _ same (k.mm kk a (.inr (.inl ⟨z, tab_drop e m⟩)))
    · exact memV_ok _ _ _ _ same (k.mm kk a (.inr (.inr (.inl ⟨z, code_drop e m⟩))))
    · exact .inr (.inr (.inr (.inl ⟨c, z, la _ _ m⟩)))
    · exact .inr (.inr (.inr (.inr ⟨n', c, z, la _ _ m1, o, t, hf _ _ _ m2, m3⟩)))
  · by_cases z : a = cc
    · rw [z, upd_same] at q; cases q
    · rw [upd_ne z] at q
      have := k.dom a q
      rw [drop_ne z] at this
      exact this
mutual
theorem Br.drop {v : V} {d : D} (e : H cc = some (.frz oc uAny)) (hd : PyData.canLay0 d = true) : Br K (memV P w vf C S) av H v d → Br K (memV P w vf C S) av (dropH H cc) v d
  | .non => .non
  | .bl b => .bl b
  | .int i => .int i
  | .str x => .str x
  | .lst q n r => .lst (drop_at e q (fun y => nomatch y)) n (BrL.drop' e (by simpa only [PyData.canLay0] using hd) r)
  | .tup q r => .tup (drop_at e q (fun y => nomatch y)) (BrL.drop' e (by simpa only [PyData.canLay0] using hd) r)
  | .scr h => by simp [scrD, PyData.canLay0] at hd
  | .mem h => by simp [memD, PyData.canLay0] at hd
theorem BrL.drop' {vs : List V} {ds : List D} (e : H cc = some (.frz oc uAny)) (hd : PyData.canLayAll0 ds = true) : BrL K (memV P w vf C S) av H vs ds → BrL K (memV P w vf C S) av (dropH H cc) vs ds
  | .nil => .nil
  | .cons a r => by
    simp only [PyData.canLayAll0, Bool.and_eq_true] at hd
    exact .cons (Br.drop e hd.1 a) (BrL.drop' e hd.2 r)
end
end
/-! ## the lambda called -/
/-- its names: one parameter, the captured name, globals -/
structure LamOk (scope : Scope) (part var : Str) : Prop where
  kind : scope.kind = .function
  co : scope.isCoroutine = false
  gen : scope.isGenerator = false
  nocell : ∀ y ∈ scope.names, y.2 ≠ .cell
  par : scope.names.lookup part = some .local
  cap : scope.names.lookup var = some .free
  loc1 : ∀ y, scope.names.lookup y = some .local → y = part
  free1 : ∀ y, scope.names.lookup y = some .free → y = var
section
variable [L : LamOf]
abbrev laEnv (loc f c' : Addr) (cc : Addr) : Env := PySem.W.envX lamQ L.scope loc f (.ref c') [(L.var, cc)]
def laCx (X : Cx) (s : Shared) (H : Hp) (f c' cc : Addr) (part : Str) : Cx where
  prog := X.prog
  w := X.w
  K := X.K
  mg := X.mg
  base := X.base
  A := X.A.deeper (laEnv s.heap.objs.size f c' cc)
  N := [part, L.var]
  s_0 := s
  H_0 := H
  env := laEnv s.heap.objs.size f c' cc
  outer := X.stack
  stack := laEnv s.heap.objs.size f c' cc :: X.stack
  ex := []
  fn := fun _ => false
  calm := true
  pn := []
  xe := fun _ _ => False
theorem one_lookup {x y : Str} {cc c : Addr} (e : ([(x, cc)] : List (Str × Addr)).lookup y = some c) : y = x ∧ c = cc := by
  rw [List.lookup_cons] at e
  split at e
  · rename_i h; cases e; exact ⟨eq_of_beq h, rfl⟩
  · cases e
theorem la_start {X : Cx} {s : Shared} {H : Hp} {f c' cc : Addr} {part : Str} {h1 : Heap} {tk : Nat} {x : V} {u : Value} {n : Int} {t : Tok} (lo : LamOk L.scope part L.var) (hpv : part ≠ L.var) (e0 : Env0 X.prog X.w X.K X.mg X.base X.A X.stack s H) (hd : X.A.handled = none)
    (hc : H cc = none) (hcell : s.heap.IsCell cc (some (.int n t))) (hns : h1.Ns s.heap.objs.size fun y => ([(part, u)] : List (Str × Value)).reverse.lookup y) (kp : ∀ b o, s.heap.get? b = some o → h1.get? b = some o) (rx : RelV x u) :
    Inv (laCx X s H f c' cc part) [] [some x, some (.int n)] H { s with heap := h1, toks := tk } := by
  have noA : ∀ b : Addr, b ∉ (laCx X s H f c' cc part).ex := fun b z => absurd (show b ∈ ([] : List Addr) from z) (by simp)
  have cellK : h1.IsCell cc (some (.int n t)) := by
    obtain ⟨o, ho, hd⟩ := hcell
    exact ⟨o, kp _ _ ho, hd⟩
  have lk : ([(L.var, cc)] : List (Str × Addr)).lookup L.var = some cc := by rw [List.lookup_cons, beq_self_eq_true]
  have hasV : ∀ y, (L.scope.names.lookup y = some .cell ∨ L.scope.names.lookup y = some .free) → ∃ c, ([(L.var, cc)] : List (Str × Addr)).lookup y = some c := fun y hy => by
    rcases hy with hy | hy
    · exact absurd rfl (lo.nocell _ (PySem.mem_of_lookup hy))
    · rw [lo.free1 y hy]; exact ⟨cc, lk⟩
  have ok : (laCx X s H f c' cc part).Ok :=
    { mod := e0.mod, kind := lo.kind, glob := rfl, blt := rfl, above := Nat.le_refl _,
      inj := fun y z c a b => by rw [(one_lookup a).1, (one_lookup b).1],
      has := hasV, cab := fun y c z _ => absurd (show false = true from z) (by decide),
      hd := fun _ => hd, frames := Around.frames_deeper e0.frames, stk := .inr ⟨rfl, rfl⟩, exf := fun b z => absurd z (noA b), bs := e0.bs, bsz := e0.bsz, noex := fun b _ _ => noA b, exfs := fun b z => absurd z (noA b), funs := e0.funs, frf := e0.frf }
  refine ⟨ok, rfl, e0.bare, Un.kept kp, ⟨_, hns, fun i y v e1 e2 e3 => ?_⟩, fun y c e => ?_, e0.hok.fresh (Nat.le_refl _), fun y c e => ?_, fun q hq => absurd (show q ∈ ([] : List (Addr × Obj)) ++ [] from hq) (by simp), e0.hok.kept kp, rfl⟩
  · match i, e1, e2 with
    | 0, e1, e2 =>
      cases e1; cases e2
      exact ⟨u, rx, .inl ⟨lo.par, by show ([(part, u)] : List (Str × Value)).lookup part = some u; rw [List.lookup_cons, beq_self_eq_true]⟩⟩
    | 1, e1, e2 =>
      cases e1; cases e2
      exact ⟨.int n t, ⟨t, rfl⟩, .inr ⟨.inr lo.cap, cc, lk, cellK⟩⟩
    | k + 2, e1, e2 => cases e2
  · rw [(one_lookup e).2]; exact ⟨_, cellK⟩
  · rw [(one_lookup e).2]; exact hc
def cClo (j : Nat) (f : EF) (B : EF) : EF := fun ρ => match cV j ρ with
  | some (.dict [(.none, .tuple [.int 78, .int n])]) => (f ρ).bind fun d => if PyData.canLay0 d = true then B [.va d, .va (.int n)] else none
  | _ => none
theorem cor_two {K : PySem.W.Frag} {M : Mem} {av : Av} {H : Hp} {x : V} {d : D} {n : Int} (b : Br K M av H x d) (dom : ∀ a, av a → H a ≠ none) (gl : GL K M H) : Cor K M H av av H [some x, some (.int n)] [.va d, .va (.int n)] where
  kp := Kp.refl
  dom := dom
  sub := fun _ z => z
  len := rfl
  slot := fun i s e => by
    match i, e with
    | 0, e => cases e; exact ⟨_, rfl, x, rfl, b⟩
    | 1, e => cases e; exact ⟨_, rfl, _, rfl, .int n⟩
    | k + 2, e => cases e
  sep := fun i j ds es a e1 _ _ _ => by
    match i, e1 with
    | 0, e => cases e
    | 1, e => cases e
    | k + 2, e => cases e
  gl := gl
theorem fe_callclo {X : Cx} {vf : NestedKey → Int} {C : Addr} {S : List NestedKey} {x part : Str} {p1 pos : Pos} {e : Expr} {j k : Nat} {f B : EF} (lo : LamOk L.scope part L.var) (hpv : part ≠ L.var) (hr : Room (k + 1) X.A) (hx : PE X (.Name x p1) (tVar j)) (hf : FE X (memV X.prog X.w vf C S) e f)
    (hbind : ∀ (cl : List (Str × Addr)) (pm : Value) (c' : Addr) (ctv u : Value), bindArgs (PySem.W.kla_fn "<lambda>" lamQ L.params L.body L.scope cl pm (.ref c') ctv) ⟨[u], []⟩ = pure [(part, u)])
    (hB : ∀ (s : Shared) (H : Hp) (g c' cc : Addr), Room k (X.A.deeper (laEnv s.heap.objs.size g c' cc)) → FE (laCx X s H g c' cc part) (memV X.prog X.w vf C S) L.body B)
    (hs : starEach [e] X.env = (false, eval e X.env) :: starEach [] X.env := by rfl) (hpl : (backTo pos (starEach [] X.env)).any (·.1) = false := by rfl) : FE X (memV X.prog X.w vf C S) (.Call (.Name x p1) [e] [] pos) (cClo j f B) := by
  refine ⟨fun pins s σ H Q I ⟨H0, av0, av, ρ, r, c, ev, post⟩ => ?_⟩
  unfold cClo at ev
  split at ev
  · rename_i n e1
    obtain ⟨d, e2, ev⟩ := bind_some ev
    split at ev
    · rename_i hcl
      have hj : ∃ g, σ[j]? = some (some (.ref g)) ∧ memV X.prog X.w vf C S H (.tuple [.int 78, .int n]) g := by
        unfold cV at e1
        split at e1
        · rename_i d' h1
          cases e1
          obtain ⟨y, q1, v, q2, b⟩ := c.slot j _ h1
          obtain ⟨g, rfl, m⟩ := br_mem (k := .tuple [.int 78, .int n]) b
          exact ⟨g, by rw [q1, q2], m⟩
        · cases e1
      obtain ⟨g, hs', hm⟩ := hj
      refine wpAny_Call_Name_kw (thn (hx.run pins s σ H (fun v H1 => v = .ref g ∧ H1 = H) I ⟨.ref g, hs', rfl, rfl⟩) fun u1 s1 ⟨v1, H1, I1, r1, q1⟩ => ?_)
      obtain ⟨rfl, rfl⟩ := q1
      obtain rfl : u1 = Value.ref g := r1
      have la1 : ∃ cl pm c' ctv, s1.heap.get? g = some (PySem.W.kla_obj "<lambda>" lamQ L.params L.body L.scope cl pm c' ctv) := by
        obtain ⟨_, ⟨cl, pm, c', ctv, h1, _, _⟩, _⟩ := mem78 hm
        exact ⟨cl, pm, c', ctv, (I1.hok _ _ h1).1⟩
      obtain ⟨cl0, pm0, c0, ctv0, of1⟩ := la1
      refine PySem.W.callWith_F ⟨_, _, _, _, of1⟩ (thn ((fa_cons hf fa_nil hs).run pos pins s1 σ H1 (fun vs H2 => ∃ y, vs = [y] ∧ Kp (memV X.prog X.w vf C S) noA H1 H2 ∧ Br X.K (memV X.prog X.w vf C S) av H2 y d) I1 ⟨H0, av0, av, ρ, [d], c, by unfold cCons cNil; rw [e2]; rfl, fun vs H2 k2 b2 => ?_⟩) fun us s2 ⟨vs, H2, I2, r2, q2⟩ => ?_) hs hpl
      · cases b2 with
        | cons b r => cases r; exact ⟨_, rfl, k2, b⟩
      obtain ⟨y, rfl, k2, b2⟩ := q2
      obtain ⟨u, rfl, ru⟩ := r2.one
      have m2 := k2.mm _ _ hm
      obtain ⟨cc, ⟨cl, pm, c', ctv, h1, h2, rfl⟩, oc, t, h3, h4⟩ := mem78 m2
      have of2 := (I2.hok _ _ h1).1
      have oc2 := (I2.hok _ _ h3).1
      obtain ⟨⟨ob, vs', t', hoc, hdc, hvc⟩, _, _⟩ := I2.hok c' _ h2
      refine ⟨⟨_, _, _, _, of2⟩, ?_⟩
      have env := I2.env0
      have envD : Env0 X.prog X.w X.K X.mg X.base X.A X.stack s2 (dropH H2 cc) := ⟨env.frames, env.mod, fun b o q => ⟨(env.bs b o q).1, drop_none (env.bs b o q).2⟩, env.bsz, env.funs, fun b hb => drop_none (env.frf b hb), hok_drop env.hok h3, env.bare⟩
      have ccf : cc ∉ frs X.stack := fun z => by have := env.frf cc z; rw [h3] at this; cases this
      have rc : codeAny (model X.prog X.w) X.A (.call (.ref g) ⟨[u], []⟩) (CR CX0 X.stack X.prog X.w H2 s2 Q E0) s2 := by
        refine PySem.W.kla_callFunE hr.depth of2 rfl lo.co lo.gen rfl ⟨c', ob, vs', t', rfl, hoc, hdc, hvc⟩ ?_
        rw [hbind]
        refine wpAny_pure (wpAny_newFunctionEnv lo.nocell (fun y hy => by rw [List.mem_singleton.mp hy]; exact lo.par) (fun h₁ hns hsb => ⟨I2.nolimit.fresh _ hsb, ?_⟩) lo.kind)
        show codeAny _ _ (.expr L.body (laEnv s2.heap.objs.size g c' cc)) _ _
        have kp : ∀ b o, s2.heap.get? b = some o → h₁.get? b = some o := fun b o q => hsb.extBut b o (Nat.ne_of_lt (Heap.lt_size q)) (Heap.get?_push_of_some _ q)
        have J : Inv (laCx X s2 (dropH H2 cc) g c' cc part) [] [some y, some (.int n)] (dropH H2 cc) { s2 with heap := h₁, toks := s2.toks + ([(part, u)] : List (Str × Value)).length } :=
          la_start lo hpv envD hr.hd drop_same ⟨oc, oc2, h4⟩ hns kp ru
        have cr : Cor X.K (memV X.prog X.w vf C S) (dropH H2 cc) (fun a => av a ∧ a ≠ cc) (fun a => av a ∧ a ≠ cc) (dropH H2 cc) [some y, some (.int n)] [.va d, .va (.int n)] :=
          cor_two ((Br.drop h3 hcl b2).weak fun a z => .inl z.1) (fun a z => by rw [drop_ne z.2]; exact (c.mono k2).dom a z.1) (gl_drop h3 (c.mono k2).gl)
        refine PySem.W.kla_codeExpr (wpAny_mono ((hB s2 (dropH H2 cc) g c' cc (hr.deeper _)).run [] _ [some y, some (.int n)] (dropH H2 cc) (fun v H' => Kp (memV X.prog X.w vf C S) noA (dropH H2 cc) H' ∧ Br X.K (memV X.prog X.w vf C S) (fun a => av a ∧ a ≠ cc) H' v r) J ⟨_, _, _, _, r, cr, ev, fun v H' k' b' => ⟨k', b'⟩⟩) (fun v s' hq => ?_) fun e s' hq => (hq : False).elim)
        obtain ⟨w', H', J', rv, k', b'⟩ := hq
        have un : Un (frs X.stack) [] (dropH H2 cc) H' s2.heap s'.heap := J'.base
        have fr : H' cc = none := un.free cc oc oc2 drop_same (by simp)
        have get' : s'.heap.get? cc = some oc := un.keep cc oc oc2 drop_same ccf (by simp)
        refine ⟨w', upd H' cc (.frz oc uAny), J'.os, J'.bare, un_back un h3, hok_back J'.hok fr get', rv, ?_⟩
        refine post w' _ (k2.trans (kp_back h3 k' fr)) ?_
        refine (Br.weak (av' := av) (fun a z => ?_) b').mono (Kp.same memV_ok (same_new fr)).of
        by_cases q : a = cc
        · exact .inr (by rw [q]; exact fr)
        · exact .inl ⟨z, q⟩
      refine wpAny_call (codeAny_mono rc fun res s' hq => ?_)
      cases res with
      | error e => exact (hq : False).elim
      | ok fl =>
        cases fl with
        | ret u => exact I2.after hq
        | next => exact False.elim hq
        | brk => exact False.elim hq
        | cont => exact False.elim hq
    · cases ev
  · cases ev
end
/-! ## the lambda made, and handed on -/
section
variable [L : LamOf] {P : Program} {w : World} {vf : NestedKey → Int} {C : Addr} {S : List NestedKey}
/-- what the making of a lambda leaves as it was -/
theorem kp_made {H H1 : Hp} {TP : Addr} (ex : ∀ b o, b ≠ TP → H b = some o → H1 b = some o) (tp : ∃ ps, H TP = some (.tbl ps)) (t1 : LamX.TabS H1 TP lamQ) (dm : ∀ b, H1 b = none → H b = none) : Kp (memV P w vf C S) noA H H1 := by
  obtain ⟨ps, hP⟩ := tp
  have nt : ∀ {b : Addr} {o : HO}, H b = some o → o ≠ .tbl ps → H1 b = some o := fun q n => ex _ _ (ne_of q hP n) q
  have hc : ∀ c, H c = some (LamX.CodeO c lamQ) → H1 c = some (LamX.CodeO c lamQ) := fun c q => nt q (LamX.codeO_ne ps)
  have la : ∀ f c, LamAt H f c → LamAt H1 f c := fun f c ⟨cl, pm, c', ctv, h1, h2, h3⟩ => ⟨cl, pm, c', ctv, nt h1 (fun z => nomatch z), hc _ h2, h3⟩
  refine ⟨fun a xs _ q => nt q (fun z => nomatch z), fun a o u q => nt q (fun z => nomatch z), fun a xs q => nt q (fun z => nomatch z), fun k a m => ?_, dm⟩
  rcases m with (⟨z, xs, m⟩ | ⟨z, dx, l, xs, e2, m⟩) | ⟨z, m⟩ | ⟨z, m⟩ | ⟨c, z, m⟩ | ⟨n', c, z, m1, o, t, m2, m3⟩
  · exact .inl (.inl ⟨z, xs, m.mono (nt m.2.1 (fun y => nomatch y)) fun b ys q => nt q (fun y => nomatch y)⟩)
  · exact .inl (.inr ⟨z, dx, l, xs, nt e2 (fun y => nomatch y), m.mono (nt m.2.1 (fun y => nomatch y)) fun b ys q => nt q (fun y => nomatch y)⟩)
  · refine .inr (.inl ⟨z, ?_⟩)
    by_cases q : a = TP
    · rw [q]; exact t1
    · obtain ⟨ps', a1, a2, a3⟩ := m
      refine ⟨ps', ex _ _ q a1, a2, fun pos cv y => ?_⟩
      obtain ⟨c, e1, e2⟩ := a3 pos cv y
      exact ⟨c, e1, hc _ e2⟩
  · exact .inr (.inr (.inl ⟨z, hc _ m⟩))
  · exact .inr (.inr (.inr (.inl ⟨c, z, la _ _ m⟩)))
  · exact .inr (.inr (.inr (.inr ⟨n', c, z, la _ _ m1, o, t, nt m2 (fun y => nomatch y), m3⟩)))
theorem lam_made {X : Cx} {pins : List (Addr × Obj)} {σ : L2.St} {H : Hp} {s : Shared} {c TP cc : Addr} {pos : Pos} {E : Value → Shared → Prop} {Q : Value → Shared → Prop} (I : Inv X pins σ H s) (TB : LamX.TabB X.base X.mg c TP) (hcode : X.env.code = .ref c) (hq : X.env.qual ++ "<lambda>" = lamQ)
    (hT : LamX.TabS H TP lamQ) (hdef : defaultsOf L.params X.env = ([], [])) (hfree : ∀ y ∈ L.scope.names, y.2 = .free → ∃ c, X.env.cells.lookup y.1 = some c) (hcl : cloFrom X.env.cells L.scope.names [] = [(L.var, cc)])
    (h : ∀ (f : Addr) (H1 : Hp) (s' : Shared), Inv X pins σ H1 s' → (∀ b o, b ≠ TP → H b = some o → H1 b = some o) → LamX.TabS H1 TP lamQ → (∀ b, H1 b = none → H b = none) → LamAt H1 f cc → Q (.ref f) s') :
    wpAny (model X.prog X.w) X.A (eval (.Lambda L.params L.body L.scope pos) X.env) Q E s := by
  obtain ⟨ps, hP, ht, ha⟩ := hT
  have bP : s.heap.BuiltinsAt X.mg TP := TB.bm.keeps I.bk
  have hP' : s.heap.get? TP = some { cls := .none, data := .fields ps } := I.hok TP _ hP
  refine PySem.W.kla_eval hdef ?_
  rw [hq]
  have clo : closureFor L.scope X.env = pure [(L.var, cc)] := by rw [closure_ok hfree, hcl]
  cases hc : codeAmong pos ps.toList with
  | some cv =>
    obtain ⟨c', rfl, hco⟩ := ha pos cv hc
    refine PySem.W.kla_makeFunctionHit (mg := X.mg) (c := c) (P := TP) (ps := ps) clo I.ok.glob (I.mod.glob.keeps I.bk) hcode (TB.code.keeps I.bk) hP' ht hc bP fun ctv h' tk hx hsz => ?_
    have nF : H h'.objs.size = none := I.hok.fresh hsz
    obtain ⟨ob, eob⟩ : ∃ ob, ob = PySem.W.kla_obj "<lambda>" lamQ L.params L.body L.scope [(L.var, cc)] ((X.mg "__name__").getD .none) c' ctv := ⟨_, rfl⟩
    show Q (.ref h'.objs.size) { s with heap := h'.push (PySem.W.kla_obj "<lambda>" lamQ L.params L.body L.scope [(L.var, cc)] ((X.mg "__name__").getD .none) c' ctv), toks := tk }
    rw [← eob]
    have gF : (h'.push ob).get? h'.objs.size = some ob := Heap.get?_push_size _ (by rw [eob]; rfl)
    have I1 : Inv X pins σ (upd H h'.objs.size (.frz ob uAny)) { s with heap := h'.push ob, toks := tk } :=
      I.laid (fun b o e => Heap.get?_push_of_some _ (hx b o e)) hsz ⟨gF, True.intro, ⟨_, gF⟩, fun _ _ _ _ => True.intro⟩
    have ex : ∀ b o, H b = some o → upd H h'.objs.size (.frz ob uAny) b = some o := fun b o q => by rw [upd_ne (ne_of_none q nF)]; exact q
    refine h h'.objs.size _ _ I1 (fun b o _ q => ex b o q) ⟨ps, ex _ _ hP, ht, fun p' cv' hcv => ?_⟩ (fun b q => ?_) ⟨_, _, c', ctv, by rw [upd_same, eob], ex _ _ hco, rfl⟩
    · obtain ⟨c0, e1, e2⟩ := ha p' cv' hcv
      exact ⟨c0, e1, ex _ _ e2⟩
    · by_cases z : b = h'.objs.size
      · rw [z, upd_same] at q; cases q
      · rw [upd_ne z] at q; exact q
  | none =>
    refine PySem.W.kla_makeFunction (mg := X.mg) (c := c) (P := TP) (ps := ps) clo I.ok.glob (I.mod.glob.keeps I.bk) hcode (TB.code.keeps I.bk) hP' ht hc TB.gP bP fun c' ctv h' tk hx hge hlt hrec htb => ?_
    obtain ⟨c2, oc, vs, t, e2, hoc, hd, hv⟩ := hrec
    cases e2
    have nC : H c' = none := I.hok.fresh hge
    have I0 := LamX.inv_table (t' := tk) (q := lamQ) (more := #[rawInt pos.line, rawInt pos.col, .ref c']) (h' := h') I hP hx htb hge ⟨oc, vs, t, hoc, hd, hv⟩
    obtain ⟨H0, eH0⟩ : ∃ H0, H0 = upd (upd H TP (.tbl (ps ++ #[rawInt pos.line, rawInt pos.col, .ref c']))) c' (LamX.CodeO c' lamQ) := ⟨_, rfl⟩
    rw [← eH0] at I0
    have atC : H0 c' = some (LamX.CodeO c' lamQ) := by rw [eH0, upd_same]
    have atP : H0 TP = some (.tbl (ps ++ #[rawInt pos.line, rawInt pos.col, .ref c'])) := by rw [eH0, upd_ne (ne_of_none hP nC), upd_same]
    have els : ∀ b, b ≠ c' → b ≠ TP → H0 b = H b := fun b h1 h2 => by rw [eH0, upd_ne h1, upd_ne h2]
    have nF : H0 h'.objs.size = none := I0.hok.fresh (Nat.le_refl _)
    obtain ⟨ob, eob⟩ : ∃ ob, ob = PySem.W.kla_obj "<lambda>" lamQ L.params L.body L.scope [(L.var, cc)] ((X.mg "__name__").getD .none) c' ctv := ⟨_, rfl⟩
    show Q (.ref h'.objs.size) { s with heap := h'.push (PySem.W.kla_obj "<lambda>" lamQ L.params L.body L.scope [(L.var, cc)] ((X.mg "__name__").getD .none) c' ctv), toks := tk }
    rw [← eob]
    have gF : (h'.push ob).get? h'.objs.size = some ob := Heap.get?_push_size _ (by rw [eob]; rfl)
    have I1 : Inv X pins σ (upd H0 h'.objs.size (.frz ob uAny)) { s with heap := h'.push ob, toks := tk } :=
      I0.laid (t' := tk) (fun b o e => Heap.get?_push_of_some _ e) (Nat.le_refl _) ⟨gF, True.intro, ⟨_, gF⟩, fun _ _ _ _ => True.intro⟩
    have ex0 : ∀ b o, H0 b = some o → upd H0 h'.objs.size (.frz ob uAny) b = some o := fun b o q => by rw [upd_ne (ne_of_none q nF)]; exact q
    have exH : ∀ b o, b ≠ TP → H b = some o → H0 b = some o := fun b o n q => by rw [els b (ne_of_none q nC) n]; exact q
    have eL : (ps ++ #[rawInt pos.line, rawInt pos.col, .ref c']).toList = ps.toList ++ [rawInt pos.line, rawInt pos.col, .ref c'] := by simp
    refine h h'.objs.size _ _ I1 (fun b o n q => ex0 b o (exH b o n q)) ⟨_, ex0 _ _ atP, by rw [eL]; exact PySem.TriplesOk_snoc _ _ _ _ ht, fun p' cv hcv => ?_⟩ (fun b q => ?_) ⟨_, _, c', ctv, by rw [upd_same, eob], ex0 _ _ atC, rfl⟩
    · rw [eL] at hcv
      rcases LamX.among_app _ ht hcv with z | z
      · obtain ⟨c0, e1, e2⟩ := ha p' cv z
        refine ⟨c0, e1, ex0 _ _ (exH _ _ (fun y => ?_) e2)⟩
        rw [y, hP] at e2
        exact LamX.codeO_ne ps (Option.some.inj e2).symm
      · exact ⟨c', z, ex0 _ _ atC⟩
    · by_cases z : b = h'.objs.size
      · rw [z, upd_same] at q; cases q
      · rw [upd_ne z] at q
        by_cases z1 : b = c'
        · rw [z1]; exact nC
        · by_cases z2 : b = TP
          · rw [z2, atP] at q; cases q
          · rw [← els b z1 z2]; exact q
theorem fe_lam {X : Cx} {c TP cc : Addr} {pos : Pos} (TB : LamX.TabB X.base X.mg c TP) (hI : IsT X.K TP) (hcode : X.env.code = .ref c) (hq : X.env.qual ++ "<lambda>" = lamQ) (hdef : defaultsOf L.params X.env = ([], [])) (hfree : ∀ y ∈ L.scope.names, y.2 = .free → ∃ c, X.env.cells.lookup y.1 = some c)
    (hcl : cloFrom X.env.cells L.scope.names [] = [(L.var, cc)]) : FE X (memV X.prog X.w vf C S) (.Lambda L.params L.body L.scope pos) (cC (memD (.tuple [.int 80, .int (cc : Nat)]))) := by
  refine ⟨fun pins s σ H Q I ⟨H0, av0, av, ρ, d, cr, ev, post⟩ => ?_⟩
  cases ev
  have hT := mem77 (cr.gl TP hI)
  refine lam_made I TB hcode hq hT hdef hfree hcl fun f H1 s' I1 ex t1 dm la => ?_
  obtain ⟨ps, hP, _⟩ := hT
  exact ⟨.ref f, H1, I1, rfl, post (.ref f) H1 (kp_made ex ⟨ps, hP⟩ t1 dm) (.mem (.inr (.inr (.inr (.inl ⟨cc, rfl, la⟩)))))⟩
theorem kp_fore {H H' : Hp} {cc : Addr} {oc : Obj} (n : H cc = none) (k : Kp (memV P w vf C S) noA (upd H cc (.frz oc uAny)) H') : Kp (memV P w vf C S) noA H (dropH H' cc) := by
  have same : Same H (upd H cc (.frz oc uAny)) := same_new n
  have e : H' cc = some (.frz oc uAny) := k.frz cc oc uAny upd_same
  have dn : ∀ {b : Addr} {o : HO}, H b = some o → b ≠ cc := fun q => ne_of_none q n
  have hf : ∀ b o u, H b = some (.frz o u) → dropH H' cc b = some (.frz o u) := fun b o u q => by rw [drop_ne (dn q)]; exact k.frz b o u (same _ _ q)
  have hc : ∀ c, H c = some (LamX.CodeO c lamQ) → dropH H' cc c = some (LamX.CodeO c lamQ) := fun c q => code_drop e (mem79 (k.mm (.int 79) c (.inr (.inr (.inl ⟨rfl, same _ _ q⟩)))))
  have la : ∀ f c, LamAt H f c → LamAt (dropH H' cc) f c := fun f c ⟨cl, pm, c', ctv, h1, h2, h3⟩ => ⟨cl, pm, c', ctv, hf _ _ _ h1, hc _ h2, h3⟩
  refine ⟨fun a xs nv q => by rw [drop_ne (dn q)]; exact k.lst a xs nv (same _ _ q), hf, fun a xs q => by rw [drop_ne (dn q)]; exact k.tup a xs (same _ _ q), fun kk a m => ?_, fun a q => ?_⟩
  · have m' := k.mm kk a (memV_ok _ _ _ _ same m)
    rcases m with m | ⟨z, m⟩ | ⟨z, m⟩ | ⟨c, z, m⟩ | ⟨n', c, z, m1, o, t, m2, m3⟩
    · rcases m' with m' | m'
      · exact .inl (mem0_drop e m')
      · rcases m with ⟨z, _⟩ | ⟨z, _⟩
        · rw [z] at m'; exact (memL_0 m').elim
        · rw [z] at m'; exact (memL_1 m').elim
    · rw [z] at m'; exact .inr (.inl ⟨z, tab_drop e (mem77 m')⟩)
    · exact .inr (.inr (.inl ⟨z, hc _ m⟩))
    · exact .inr (.inr (.inr (.inl ⟨c, z, la _ _ m⟩)))
    · exact .inr (.inr (.inr (.inr ⟨n', c, z, la _ _ m1, o, t, hf _ _ _ m2, m3⟩)))
  · by_cases z : a = cc
    · rw [z]; exact n
    · rw [drop_ne z] at q
      have := k.dom a q
      rw [upd_ne z] at this
      exact this
def cPutL (j : Nat) (F : List D → Option D) (f1 f2 : EF) : EF := fun ρ => match cV j ρ with
  | some (.int n) => (f1 ρ).bind fun d1 => (f2 ρ).bind fun d2 => (F [d1, d2, memD (.tuple [.int 78, .int n])]).bind fun r => if PyData.canLay0 r = true then some r else none
  | _ => none
theorem fe_putlam {X : Cx} {c TP cc : Addr} {x : Str} {p pos lpos : Pos} {e1 e2 : Expr} {f1 f2 : EF} {j k m : Nat} {F : List D → Option D} (Gk : Cal X.prog X.w X.K X.mg X.base (memV X.prog X.w vf C S) x k 3 F) (hr : Room m X.A) (hk : k ≤ m) (hg : Gl X x) (TB : LamX.TabB X.base X.mg c TP) (hI : IsT X.K TP) (hcode : X.env.code = .ref c) (hq : X.env.qual ++ "<lambda>" = lamQ)
    (hdef : defaultsOf L.params X.env = ([], [])) (hfree : ∀ y ∈ L.scope.names, y.2 = .free → ∃ c, X.env.cells.lookup y.1 = some c) (hcl : cloFrom X.env.cells L.scope.names [] = [(L.var, cc)]) (hcc : X.env.cells.lookup L.var = some cc) (hkind : X.env.kindOf L.var = some .cell) (hN : X.N[j]? = some L.var) (hab : X.s_0.heap.objs.size ≤ cc)
    (h1 : FE X (memV X.prog X.w vf C S) e1 f1) (h2 : FE X (memV X.prog X.w vf C S) e2 f2) (hdb : (x == ("__debug__" : Str)) = false := by decide)
    (s1 : starEach [e1, e2, .Lambda L.params L.body L.scope lpos] X.env = (false, eval e1 X.env) :: starEach [e2, .Lambda L.params L.body L.scope lpos] X.env := by rfl) (s2 : starEach [e2, .Lambda L.params L.body L.scope lpos] X.env = (false, eval e2 X.env) :: starEach [.Lambda L.params L.body L.scope lpos] X.env := by rfl)
    (s3 : starEach [.Lambda L.params L.body L.scope lpos] X.env = (false, eval (.Lambda L.params L.body L.scope lpos) X.env) :: starEach [] X.env := by rfl) (hpl : (backTo pos (starEach [e2, .Lambda L.params L.body L.scope lpos] X.env)).any (·.1) = false := by rfl) :
    FE X (memV X.prog X.w vf C S) (.Call (.Name x p) [e1, e2, .Lambda L.params L.body L.scope lpos] [] pos) (cPutL j F f1 f2) := by
  obtain ⟨g, fd, ps, hm, kp, hb, G⟩ := Gk.ex
  refine ⟨fun pins s σ H Q I ⟨H0, av0, av, ρ, r0, cr, ev, post⟩ => ?_⟩
  unfold cPutL at ev
  split at ev
  · rename_i n en
    obtain ⟨d1, q1, ev⟩ := bind_some ev
    obtain ⟨d2, q2, ev⟩ := bind_some ev
    obtain ⟨r, qF, ev⟩ := bind_some ev
    split at ev
    · rename_i hcr
      have ev := Option.some.inj ev; subst ev
      have hσ : σ[j]? = some (some (.int n)) := by
        unfold cV at en
        split at en
        · rename_i d' h'
          cases en
          obtain ⟨y, z1, v, z2, b⟩ := cr.slot j _ h'
          cases b
          rw [z1, z2]
        · cases en
      refine wpAny_Call_Name_kw (ld_glob I hg hm ?_ hdb)
      refine PySem.W.callWith_K (h₀ := X.base) I.ok.mod.kin kp (thn ((fa_cons h1 (fa_cons h2 (fa_cons (fe_lam (cc := cc) TB hI hcode hq hdef hfree hcl) fa_nil s3) s2) s1).run pos pins s σ H (fun vs H1 => ∃ v1 v2 f, vs = [v1, v2, .ref f] ∧ Kp (memV X.prog X.w vf C S) noA H H1 ∧ Br X.K (memV X.prog X.w vf C S) av H1 v1 d1 ∧ Br X.K (memV X.prog X.w vf C S) av H1 v2 d2 ∧ LamAt H1 f cc) I
        ⟨H0, av0, av, ρ, [d1, d2, memD (.tuple [.int 80, .int (cc : Nat)])], cr, by unfold cCons cNil cC; rw [q1, q2]; rfl, fun vs H1 k1 b1 => ?_⟩) fun us s1' ⟨vs, H1, I1, r1, qq⟩ => ⟨I1.kIn, ?_⟩) s1 hpl
      · cases b1 with
        | cons b1 rest =>
          cases rest with
          | cons b2 rest =>
            cases rest with
            | cons b3 rest =>
              cases rest
              obtain ⟨f, rfl, m⟩ := br_mem b3
              exact ⟨_, _, f, rfl, k1, b1, b2, mem80 m⟩
      obtain ⟨v1, v2, f, rfl, k1, b1, b2, la⟩ := qq
      have c1 := cr.mono k1
      obtain ⟨mm, hn, hl⟩ := I1.loc
      obtain ⟨u, ru, look⟩ := hl j L.var (.int n) hN hσ (.inr (.inl hkind))
      obtain ⟨t, rfl⟩ := ru
      obtain ⟨oc, goc, doc⟩ : ∃ oc, s1'.heap.get? cc = some oc ∧ oc.data = .cell (some (.int n t)) := by
        rcases look with ⟨z, _⟩ | ⟨_, c3, z1, oc, z2, z3⟩
        · rw [hkind] at z; cases z
        · rw [hcc] at z1; cases z1
          exact ⟨oc, z2, z3⟩
      have nCC : H1 cc = none := I1.freeC _ _ hcc
      have ccf : cc ∉ frs X.stack := fun z => by
        rcases List.mem_cons.mp (I1.stkSub _ z) with q | q
        · exact I1.cne _ _ hcc q
        · obtain ⟨_, o, ho, _⟩ := I1.ok.funs.mem q
          exact absurd (Nat.lt_of_lt_of_le (Heap.lt_size ho) hab) (Nat.lt_irrefl _)
      have same : Same H1 (upd H1 cc (.frz oc uAny)) := same_new nCC
      have ks : Kp (memV X.prog X.w vf C S) noA H1 (upd H1 cc (.frz oc uAny)) := Kp.same memV_ok same
      have env := I1.env0
      have envP : Env0 X.prog X.w X.K X.mg X.base X.A X.stack s1' (upd H1 cc (.frz oc uAny)) :=
        ⟨env.frames, env.mod, fun b o q => ⟨(env.bs b o q).1, by
          have hlt : b < X.base.objs.size := Heap.lt_size q
          have ne : b ≠ cc := fun z => by
            rw [z] at hlt
            exact absurd (Nat.lt_of_lt_of_le hlt (Nat.le_trans I1.ok.bsz hab)) (Nat.lt_irrefl _)
          rw [upd_ne ne]; exact (env.bs b o q).2⟩, env.bsz, env.funs, fun b hb' => by rw [upd_ne (fun z => ccf (by rw [← z]; exact hb'))]; exact env.frf b hb', hok_back env.hok nCC goc, env.bare⟩
      have la2 : LamAt (upd H1 cc (.frz oc uAny)) f cc := by
        obtain ⟨cl, pm, c', ctv, a1, a2, a3⟩ := la
        exact ⟨cl, pm, c', ctv, same _ _ a1, same _ _ a2, a3⟩
      have dom2 : ∀ a, av a → upd H1 cc (.frz oc uAny) a ≠ none := fun a z => by
        by_cases q : a = cc
        · rw [q, upd_same]; exact fun z => nomatch z
        · rw [upd_ne q]; exact c1.dom a z
      have hyp : spF X.K (memV X.prog X.w vf C S) 3 F [v1, v2, .ref f] (upd H1 cc (.frz oc uAny)) (fun v H' => Kp (memV X.prog X.w vf C S) noA (upd H1 cc (.frz oc uAny)) H' ∧ Br X.K (memV X.prog X.w vf C S) av H' v r) E0 :=
        ⟨av, [d1, d2, memD (.tuple [.int 78, .int n])], r, rfl, .cons (b1.mono ks.of) (.cons (b2.mono ks.of) (.cons (.mem (.inr (.inr (.inr (.inr ⟨n, cc, rfl, la2, oc, t, upd_same, doc⟩))))) .nil)), dom2, c1.gl.mono ks, qF, fun v H' k b => ⟨k, b⟩⟩
      have hl2 : us.length = ps.length := by
        have r1l := r1.length
        rw [← r1l]
        exact G.len [v1, v2, .ref f] _ _ _ hyp
      have hbb := hb s1' us I1.kIn (by rw [List.append_nil]; exact hl2)
      rw [List.append_nil] at hbb
      have run := G.run X.A X.stack s1' (upd H1 cc (.frz oc uAny)) ⟨us, []⟩ us [v1, v2, .ref f] (fun v H' => Kp (memV X.prog X.w vf C S) noA (upd H1 cc (.frz oc uAny)) H' ∧ Br X.K (memV X.prog X.w vf C S) av H' v r) E0 (hr.mono hk) envP hbb r1 hyp
      refine wpAny_call (codeAny_mono run fun res s2' hq' => ?_)
      cases res with
      | error e => exact (hq' : False).elim
      | ok fl =>
        cases fl with
        | next => exact False.elim hq'
        | brk => exact False.elim hq'
        | cont => exact False.elim hq'
        | ret u =>
          obtain ⟨v, H', os, bare, un, hok', rv, k', b'⟩ := hq'
          have e' : H' cc = some (.frz oc uAny) := k'.frz cc oc uAny upd_same
          have g' : s2'.heap.get? cc = some oc := (hok' cc _ e').1
          refine I1.after (Q := Q) ⟨v, dropH H' cc, os, bare, un_fore un nCC goc g' ccf, hok_drop hok' e', rv, ?_⟩
          exact post v _ (k1.trans (kp_fore nCC k')) (Br.drop e' hcr b')
    · cases ev
  · cases ev
end
end G
/-! ## the rest that this law asks for -/
namespace G
open PySem PySem.Spec PyProof.Rows L2
def cItS (f : EF) : LF := fun ρ => (f ρ).bind fun d => match d with
  | .list ds => some ds
  | .dict kvs => (scrI kvs).bind fun ns => some (ns.map PyData.int)
  | _ => none
theorem wk_scr {K : PySem.W.Frag} {M : Mem} {av : Av} {a : Addr} {kvs : List (D × D)} {ns : List Int} {H' : Hp} (b : Br K M av H' (.ref a) (.dict kvs)) (e : scrI kvs = some ns) : Wk K M av (Itl K a) H' (ns.map PyData.int) := by
  intro i av' H2 s hd k
  have sq : SqL K H2 a (ns.map V.int) := by
    obtain ⟨a', e1, h⟩ := BrK.scr_ (.inl (b.later s k)) e
    cases e1
    exact h
  refine ⟨fun d q => ?_, fun q => ⟨_, sq, by rw [List.getElem?_eq_none_iff, List.length_map] at q; rw [List.length_map]; exact q⟩⟩
  rw [List.getElem?_map] at q
  cases hn : ns[i]? with
  | none => rw [hn] at q; cases q
  | some n =>
    rw [hn] at q
    cases q
    have e1 : (ns.map V.int)[i]? = some (.int n) := by rw [List.getElem?_map, hn]; rfl
    refine ⟨⟨_, _, sq, e1⟩, fun x H3 y => ?_⟩
    obtain ⟨rfl, y⟩ := y
    have e2 := y _ sq
    rw [e1] at e2
    cases e2
    exact ⟨Kp.refl, .int n⟩
theorem fi_scr {X : Cx} {M : Mem} {tg e : Expr} {f : EF} (he : FE X M e f) : FI X M tg e (cItS f) := PI.imp (pi_list he) fun σ H R q => by
  obtain ⟨H0, av0, av, ρ, ds, c, e, k⟩ := q
  obtain ⟨d, e1, e⟩ := bind_some e
  split at e
  · cases e
    refine ⟨H0, av0, av, ρ, _, c, e1, fun v H1 k1 b1 => ?_⟩
    cases b1 with
    | lst hx n b => exact ⟨_, rfl, ⟨_, SqL.of hx⟩, k _ _ k1 (wk_list hx n b)⟩
  · rename_i kvs
    obtain ⟨ns, e2, e⟩ := bind_some e
    cases e
    refine ⟨H0, av0, av, ρ, _, c, e1, fun v H1 k1 b1 => ?_⟩
    obtain ⟨a, rfl, sq⟩ := BrK.scr_ (.inl b1) e2
    exact ⟨_, rfl, ⟨_, sq⟩, k _ _ k1 (wk_scr b1 e2)⟩
  · cases e
def strD : List D → Option D
  | [.int i] => if i.natAbs.log2 < 1920 then some (.str (toString i)) else none
  | _ => none
theorem c_str {X : Cx} {M : Mem} : CallR X (.type "str") (rC X.K M strD) := by
  intro pins s σ H xs us Q I r h
  obtain ⟨av, ds, z, b, hd, g, k⟩ := h
  unfold strD at g
  split at g
  · split at g
    · cases g
      rename_i hz
      obtain ⟨v, rfl, b1⟩ := one_k b
      exact call_str_int pins s σ H _ us Q I r ⟨_, by rw [b1.int_], hz, k _ _ Kp.refl (.str _)⟩
    · cases g
  · cases g
theorem fe_no {X : Cx} {M : Mem} {e : Expr} : FE X M e (fun _ => none) := ⟨fun pins s σ H Q I ⟨_, _, _, _, _, _, ev, _⟩ => nomatch ev⟩
section
variable {M : Mem}
/-- THE RULE for a def whose code object is known -/
theorem fun_okC {P : Program} {w : World} {K : PySem.W.Frag} {mg : Str → Option Value} {base : Heap} {name qual : Str} {st : Stmt} {f c : Addr} {oc : Value} {od an : Option Addr} {osl : Array (Option Value)} {dV kV doc pm ct : Value} {N ps : List Str} {k : Nat} {B : SF}
    (lk : K.lookup f = some ⟨oc, od, .func (PySem.W.fnOf name qual (defArgs st) (defBody st) (defScope st) dV kV doc pm an (.ref c) ct), osl⟩) (hcd : PySem.W.codeIn K (.ref c) qual = true) (S : FnScope N ps (defScope st))
    (hbody : ∀ (A : Around) (outer : List Env) (s : Shared) (H : Hp) (E : XK), Room k (A.deeper (envOfC qual (defScope st) s.heap.objs.size f (.ref c))) → FSs (cxOf CX0 P w K mg base N qual (defScope st) f (.ref c) A outer s H E).nox M (defBody st) B) :
    FnOk P w K mg base CX0 (k + 1) f (PySem.W.fnOf name qual (defArgs st) (defBody st) (defScope st) dV kV doc pm an (.ref c) ct) ps (spF K M ps.length (runF N.length B)) := by
  refine fn_of lk hcd S (fun vs H Q E h => ?_) (fun A outer s H vs Q E hr h => ?_)
  · obtain ⟨_, _, _, h, _⟩ := h; exact h
  · obtain ⟨av, ds, d, hl, b, hd, gl, e, q⟩ := h
    refine ⟨_, (hbody A outer s H E hr).nox, ?_⟩
    obtain ⟨o, e1, e⟩ := bind_some e
    refine ⟨H, av, av, _, o, start_cor b hd gl, e1, ?_⟩
    cases o with
    | rt d' => cases e; exact q
    | nx ρ => cases e; exact fun av' σ' H' k1 s1 c1 => q .non H' c1.kp .non
    | bk ρ => cases e
    | ct ρ => cases e
end
section
variable [L : LamOf] {vf : NestedKey → Int} {C : Addr} {S : List NestedKey}
/-- the lambda handed on, out of a def whose one cell is the captured name's -/
theorem fe_putlam1 {X : Cx} {c TP cc : Addr} {x : Str} {p pos lpos : Pos} {e1 e2 : Expr} {f1 f2 : EF} {j k m : Nat} {F : List D → Option D} (Gk : Cal X.prog X.w X.K X.mg X.base (memV X.prog X.w vf C S) x k 3 F) (hr : Room m X.A) (hk : k ≤ m) (hg : Gl X x) (TB : LamX.TabB X.base X.mg c TP) (hI : IsT X.K TP)
    (h1 : FE X (memV X.prog X.w vf C S) e1 f1) (h2 : FE X (memV X.prog X.w vf C S) e2 f2) (hcode : X.env.code = .ref c) (hq : X.env.qual ++ "<lambda>" = lamQ)
    (hdef : defaultsOf L.params X.env = ([], [])) (hcells : X.env.cells = [(L.var, cc)]) (hfr : ∀ y ∈ L.scope.names, y.2 = .free → y.1 = L.var) (hcl : cloFrom [(L.var, cc)] L.scope.names [] = [(L.var, cc)]) (hkind : X.env.kindOf L.var = some .cell) (hN : X.N[j]? = some L.var) (hab : X.s_0.heap.objs.size ≤ cc)
    (hdb : (x == ("__debug__" : Str)) = false := by decide)
    (s1 : starEach [e1, e2, .Lambda L.params L.body L.scope lpos] X.env = (false, eval e1 X.env) :: starEach [e2, .Lambda L.params L.body L.scope lpos] X.env := by rfl) (s2 : starEach [e2, .Lambda L.params L.body L.scope lpos] X.env = (false, eval e2 X.env) :: starEach [.Lambda L.params L.body L.scope lpos] X.env := by rfl)
    (s3 : starEach [.Lambda L.params L.body L.scope lpos] X.env = (false, eval (.Lambda L.params L.body L.scope lpos) X.env) :: starEach [] X.env := by rfl) (hpl : (backTo pos (starEach [e2, .Lambda L.params L.body L.scope lpos] X.env)).any (·.1) = false := by rfl) :
    FE X (memV X.prog X.w vf C S) (.Call (.Name x p) [e1, e2, .Lambda L.params L.body L.scope lpos] [] pos) (cPutL j F f1 f2) := by
  have lk : X.env.cells.lookup L.var = some cc := by rw [hcells, List.lookup_cons, beq_self_eq_true]
  exact fe_putlam Gk hr hk hg TB hI hcode hq hdef (fun y hy e => ⟨cc, by rw [hfr y hy e]; exact lk⟩) (by rw [hcells]; exact hcl) lk hkind hN hab h1 h2 hdb s1 s2 s3 hpl
theorem lamOk_by {part : Str} (h1 : L.scope.kind = .function) (h2 : L.scope.isCoroutine = false) (h3 : L.scope.isGenerator = false) (h4 : ∀ y ∈ L.scope.names, y.2 ≠ .cell) (h5 : L.scope.names.lookup part = some .local) (h6 : L.scope.names.lookup L.var = some .free)
    (h7 : ∀ y ∈ L.scope.names, y.2 = .local → y.1 = part) (h8 : ∀ y ∈ L.scope.names, y.2 = .free → y.1 = L.var) : LamOk L.scope part L.var :=
  ⟨h1, h2, h3, h4, h5, h6, fun y e => h7 _ (PySem.mem_of_lookup e) rfl, fun y e => h8 _ (PySem.mem_of_lookup e) rfl⟩
theorem law_start39 {P : Program} {w : World} {K : PySem.W.Frag} {F : List NestedKey → List D → Option D} {H : Hp} {a TP : Addr} {ns : List Int} (hI : IsT K TP) (hP : H TP = some (.tbl #[])) (hS : SqL K H a (ns.map V.int)) (h1 : ∃ S, F S [scrD ns] = some (.bool true)) (h2 : ∃ S, F S [.list (ns.map PyData.int)] = some (.bool true)) :
    spV P w K vf C F [.ref a] H (fun v _ => v = .bl true) fun _ _ _ => False := by
  have gl : ∀ S, GL K (memV P w vf C S) H := fun S TP' h => by rw [IsT.uniq h hI]; exact .inr (.inl ⟨rfl, LamX.TabS.nil hP⟩)
  have ib : ∀ (S : List NestedKey) (ns : List Int), BrL K (memV P w vf C S) noA H (ns.map V.int) (ns.map PyData.int) := fun S ns => by
    induction ns with
    | nil => exact .nil
    | cons n r ih => exact .cons (.int n) ih
  have fin : ∀ d, (∀ S, Br K (memV P w vf C S) noA H (.ref a) d) → (∃ S, F S [d] = some (.bool true)) → spV P w K vf C F [.ref a] H (fun v _ => v = .bl true) fun _ _ _ => False :=
    fun d b ⟨S, h⟩ => ⟨S, noA, [d], .bool true, rfl, .cons (b S) .nil, fun _ z => z.elim, gl S, h, fun v H' k b => by cases b; rfl⟩
  rcases hS with h | h
  · rcases h with h | h
    · exact fin _ (fun S => .lst h (fun z => z.elim) (ib S ns)) h2
    · exact fin _ (fun S => .scr (.inl h)) h1
  · exact fin _ (fun S => .scr (.inr (.inr h))) h1
theorem lawAt39 {l : PySem.W.OpenLaw} {w : World} {K : PySem.W.Frag} {n k : Nat} {x : Str} {mg : Str → Option Value} {fa c TP : Addr} {h : Heap} {F : List NestedKey → List D → Option D} {fd : FuncData} (hT : h.get? TP = some { cls := .none, data := .fields #[] }) (nT : K.lookup TP = none) (cd : PySem.W.CodeHd h c TP) (hI : IsT K TP)
    (hb : ∀ (s : Shared) (u : Value), BindsTo s fd ⟨[u], []⟩ [(x, u)]) (h1 : ∀ ns : List Int, ns.length ≤ n → ∃ S, F S [scrD ns] = some (.bool true)) (h2 : ∀ ns : List Int, ns.length ≤ n → ∃ S, F S [.list (ns.map PyData.int)] = some (.bool true))
    (hF : ∀ base : Heap, K.In base → base.Ns mainGlobals mg → LamX.TabB base mg c TP → FnOk l.prog w K mg base CX0 k fa fd [x] (spV l.prog w K vf C F)) : LamX.LawAtS l w K CX0 k n x mg fa h :=
  ⟨fd, [(c, TP)], spV l.prog w K vf C F, fun p hp => by rw [List.mem_singleton.mp hp]; exact hT, fun p hp => by rw [List.mem_singleton.mp hp]; exact nT, fun p hp => by rw [List.mem_singleton.mp hp]; exact cd, hb,
    fun H a ns hl _ hT hS => law_start39 hI (hT _ List.mem_cons_self) hS (h1 ns hl) (h2 ns hl), fun base hK hN hT => hF base hK hN (hT _ List.mem_cons_self)⟩
end
/-- the end, where another def than the law makes the lambdas -/
theorem walk_maker {l : PySem.W.OpenLaw} {n k : Nat} {q : Program} {loose : List Str} {XP : (Str → Option Value) → Heap → Prop} {YP : World → Heap → Prop} {d : DefRec} {K : Params → PySem.W.Frag} {CX : World → CXT} {x nm : Str}
    (hn : l.most = some n) (hn2 : n ≤ sizeLine) (hdf : d.params.defaults = []) (hr : Room k callerA) (hrec : ((recsOf q).any fun e => e.name == nm) = true) (hY : ∀ (w : World) (h : Heap), YP w h → (K w.params).In h)
    (F : ∀ (w : World) (mg : Str → Option Value) (fa : Addr) (h : Heap), YP w h → (K w.params).In h → h.Ns mainGlobals mg → mg d.name = some (.ref fa) → (∀ f, mg nm = some (.ref f) → LamX.OwnTab (K w.params) f h) → LamX.LawAtS l w (K w.params) (CX w) k n x mg fa h)
    (hCX : ∀ (w : World) (H : Hp) (s : Shared) (e : Value) (s' : Shared), CX w [] H s (fun _ _ _ => False) e s' → False) :
    PySem.W.WalkO q loose XP YP l.row.toRowW d [] (fun f vs => PySem.call f vs) := by
  refine Att.attach_callB hn hdf fun w s₀ s₁ mg mb fa o pm cd doc a vs ns G Y ho hd hcd hmg hobj hints hlen hbits hg => ?_
  have KX := hY w _ Y
  have own : ∀ f, mg nm = some (.ref f) → LamX.OwnTab (K w.params) f s₁.heap := fun f hf c P o1 fd1 e dd vs1 sl k1 k2 k3 k4 k5 => by
    obtain ⟨dL, hm, hn1⟩ := List.any_eq_true.mp hrec
    have hn2 : dL.name = nm := beq_iff_eq.mp hn1
    obtain ⟨a', o', fd', c', P', h1, h2, h3, h4, h5, h6⟩ := G.T.tab dL hm
    rw [hn2, hf] at h1
    cases h1
    have g1 := KX _ _ k1
    rw [g1] at h2
    cases h2
    rw [k2] at h3
    cases h3
    rw [k3] at h4
    cases h4
    obtain ⟨⟨oc, vc, e1, _, e3, e4⟩, hP⟩ := h6
    have g2 := KX _ _ k4
    rw [g2] at e1
    cases e1
    cases e3
    rw [k5] at e4
    cases e4
    exact hP
  obtain ⟨fd, cs, sp, hT, nT, C, hb, hsp, hF⟩ := F w mg fa _ Y KX G.T.g hmg own
  exact LamX.law_callTs KX G.T.g G.T.b G.T.builtins G.T.nolimit hg hT nT C G.T.bmain hobj hints (Nat.le_trans hlen hn2) hr hF hb (fun H hH hS => hsp H a ns hlen hbits hH hS) fun H e s' => hCX w H s₁ e s'
end G

/-! ## enumerate of a tuple -/
namespace G
open PySem PySem.Spec PyProof.Rows L2
theorem meets_enum1 {v : Value} {o : Obj} {H : Heap → Prop} (B : PySem.Begins v o H) :
    Meets (Builtin.«enumerate.__new__» ⟨[.type "enumerate", v], []⟩) (fun _ R s => H s.heap ∧
      R (.ok (.ret (.ref (s.heap.push o).objs.size))) { s with heap := (s.heap.push o).push { cls := .type "enumerate", data := .fields #[.none, .bool false, .ref s.heap.objs.size, rawInt 0, .none, .none] } }) :=
  .of_wp fun prog w A R s h => by
    obtain ⟨hp, g, d, tk, os⟩ := s; obtain ⟨h1, h⟩ := h
    have hsub := sub_enumerate
    have q1 : ∀ {A' : Around} {E : Value → Shared → Prop} {Q : Value → Shared → Prop}, Q (.ref hp.objs.size) ⟨hp.push o, g, d, tk, os⟩ → wpAny (model prog w) A' (pyIter v) Q E ⟨hp, g, d, tk, os⟩ :=
      fun q => B.iter prog w _ _ ⟨hp, g, d, tk, os⟩ _ h1 q
    wp_walk using q1
    refine wpAny_stack_any fun st => wpAny_pure ?_
    split
    · rename_i c _ _ _ _ _
      cases (c == Value.type "enumerate")
      · wp_walk using q1
        exact ⟨_, rfl, h⟩
      · wp_walk using q1
        exact ⟨_, rfl, h⟩
    · wp_walk using q1
      exact ⟨_, rfl, h⟩
theorem enum1_begins {prog : Program} {w : World} {A : Around} {E : Value → Shared → Prop} {s : Shared} {v : Value} {o : Obj} {H : Heap → Prop} {Q : Value → Shared → Prop} (B : PySem.Begins v o H) (h1 : H s.heap)
    (h : ∀ h', IsEnum h' (s.heap.objs.size + 1) s.heap.objs.size 0 .none → h'.get? s.heap.objs.size = some o → h'.objs.size = s.heap.objs.size + 2 →
      (∀ b o, s.heap.get? b = some o → h'.get? b = some o) → Q (.ref (s.heap.objs.size + 1)) { s with heap := h' }) :
    wpAny (model prog w) A (PySem.call (.type "enumerate") [v]) Q E s := by
  refine callType_new F.called_enumerate (by decide) (F.typeCall_enumerate_1 _) (F.newCall_enumerate_1 _) (fun obj => F.args_object_init_2 obj _) F.entry_enumerate_new
    (meets_enum1 B) ⟨h1, ?_⟩
  have hz : (s.heap.push o).objs.size = s.heap.objs.size + 1 := Heap.size_push ..
  show _ ∧ _
  rw [hz]
  have he : IsEnum ((s.heap.push o).push { cls := .type "enumerate", data := .fields #[.none, .bool false, .ref s.heap.objs.size, rawInt 0, .none, .none] }) (s.heap.objs.size + 1) s.heap.objs.size 0 .none := by
    have := Heap.get?_push_size (s.heap.push o) (o := { cls := .type "enumerate", data := .fields #[.none, .bool false, .ref s.heap.objs.size, rawInt 0, .none, .none] }) rfl
    rw [hz] at this; exact this
  refine ⟨⟨_, he, rfl⟩, h _ he (Heap.get?_push_of_some _ (Heap.get?_push_size _ B.free)) (by rw [Heap.size_push, hz]) fun b o x => Heap.get?_push_of_some _ (Heap.get?_push_of_some _ x)⟩
/-- the tuple at a as it stands at each turn, each item in a new pair -/
def IteT (K : PySem.W.Frag) (a : Addr) : It :=
  ⟨fun i H => ∃ (xs : List V) (x : V), SqT K H a xs ∧ xs[i]? = some x, fun i H v H' => ∃ T x, v = .ref T ∧ H T = none ∧ H' = upd H T (.tup [.int (i : Nat), x]) ∧ ∀ xs, SqT K H a xs → xs[i]? = some x, fun i H => ∃ xs : List V, SqT K H a xs ∧ xs.length ≤ i⟩
theorem draws_endTe {prog : Program} {w : World} {A : Around} (hh : A.handled = none) (it l : Addr) {items : Array Value} {i : Nat} (hi : items[i]? = none) : Draws prog w A it [it, l] i (fun _ _ => False) (fun j h => j = i ∧ h.IsTupleIter it l i ∧ h.IsTuple l items) where
  live := fun _ _ st => let ⟨o, ho, _⟩ := st.2.1; ⟨o, ho⟩
  frame := fun _ _ _ st hk => ⟨st.1, st.2.1.at fun o e => hk it (by simp) o e, st.2.2.at fun o e => hk l (by simp) o e⟩
  item := fun j s Q E hlt st hQ => by have := st.1; omega
  done := fun s Q E st hE => wpAny_nextOf_tuple_end hh st.2.1 st.2.2 hi hE
theorem turn_enumT {P : Program} {w : World} {K : PySem.W.Frag} {elts : List Expr} {kk : Nat} {tpos : Pos} (a e it : Addr) :
    Turn P w K (.Tuple elts kk tpos) (IteT K a) [e, it] e (fun i h => (∃ old, IsEnum h e it ((i : Nat) : Int) old) ∧ h.IsTupleIter it a i ∧ e ≠ it) where
  mem := by simp
  obj := fun i h st b hb => by
    obtain ⟨⟨old, he⟩, ⟨o, ho, hc, hd⟩, _⟩ := st
    have e' : b = e ∨ b = it := by simpa using hb
    rcases e' with z | z
    · rw [z]; exact ⟨_, he, fun v q => nomatch q⟩
    · rw [z]; exact ⟨o, ho, fun v q => by rw [hd] at q; cases q⟩
  keep := fun i h h' st k => let ⟨⟨old, he⟩, hi, hne⟩ := st; ⟨⟨old, k e (by simp) _ he⟩, hi.at fun o q => k it (by simp) o q, hne⟩
  item := by
    intro X hP hw hK hc i pins s σ H E I hf st hg
    subst hP hw hK
    obtain ⟨⟨old, he⟩, hit, hne⟩ := st
    obtain ⟨xs, x, hq, hx⟩ := hg
    obtain ⟨its, rv, p, _⟩ := I.tuple hq
    obtain ⟨u, hu, ru⟩ := rv.get hx
    have hh : X.A.in1.handled = none := I.ok.hd hc
    have nea : a ≠ it := fun q => by
      obtain ⟨o1, e1, c1, _⟩ := hit
      obtain ⟨o, e, c, _⟩ := p
      rw [q, e1] at e
      cases e
      rw [c1] at c; exact absurd (Value.type.inj c) (by decide)
    have neb : e ≠ a := fun q => by
      obtain ⟨o, e1, c, _⟩ := p
      rw [← q, he] at e1
      cases e1
      exact absurd (Value.type.inj c) (by decide)
    have hel : e < s.heap.objs.size := Heap.lt_size he
    have hil : it < s.heap.objs.size := by obtain ⟨_, q, _⟩ := hit; exact Heap.lt_size q
    refine wpAny_pyNext_enum_itemD (Draws.tuple hh it a nea its.toArray) he ⟨hit, p⟩ (by have := (List.getElem?_eq_some_iff.mp hu).1; simpa using this) hne (by simp [hne, neb]) fun x1 h' tk y1 ho d1 hT hsz hk => ?_
    have ex1 : x1 = u := by
      have : its[i]? = some x1 := by simpa using y1
      rw [hu] at this; exact (Option.some.inj this).symm
    subst ex1
    refine ⟨_, rfl, wpAny_letOwnedTupleGo_enum (s := { s with heap := h', toks := tk + 1 }) ho fun h'' he' sb => ?_⟩
    have hT2 : h''.get? s.heap.objs.size = some { cls := .type "tuple", data := .seq #[.int i tk, x1] } := (sb.2 _ (Nat.ne_of_gt hel)).trans hT
    have new : ObjOk X.prog X.w (upd H s.heap.objs.size (.tup [.int (i : Nat), x])) h'' s.heap.objs.size (.tup [.int (i : Nat), x]) :=
      ⟨by show 2 ≤ sizeLine; decide, [.int i tk, x1], .cons ⟨_, rfl⟩ (.cons ru .nil), ⟨_, hT2, rfl, _, rfl⟩⟩
    have I1 : Inv X pins σ (upd H s.heap.objs.size (.tup [.int (i : Nat), x])) { s with heap := h'', toks := tk + 1 } :=
      I.turnedNew (t' := tk + 1) (ch := [e, it]) (fun b ob hb q => (sb.2 b (fun z => hb (by simp [z]))).trans (hk b ob (fun z => hb (by simp [z])) (fun z => hb (by simp [z])) q)) hf (Nat.le_refl _) new
    refine ⟨.ref s.heap.objs.size, _, I1, rfl, ⟨_, x, rfl, I.hok.fresh (Nat.le_refl _), rfl, fun ys hy => by rw [I.tuple_inj hy hq]; exact hx⟩, ⟨⟨x1, ?_⟩, d1.1.at fun o q => (sb.2 it (Ne.symm hne)).trans q, hne⟩, fun b hb => ?_⟩
    · have e1 : ((i + 1 : Nat) : Int) = (i : Int) + 1 := by omega
      rw [e1]; exact he'
    · have hb' : b < s.heap.objs.size := by
        have e' : b = e ∨ b = it := by simpa using hb
        rcases e' with z | z
        · rw [z]; exact hel
        · rw [z]; exact hil
      rw [upd_ne (Nat.ne_of_lt hb')]
      exact (hf b hb).1
  done := by
    intro X hP hw hK hc i pins s σ H E I hf st hg
    subst hP hw hK
    obtain ⟨⟨old, he⟩, hit, hne⟩ := st
    obtain ⟨xs, hq, hx⟩ := hg
    obtain ⟨its, rv, p, _⟩ := I.tuple hq
    have hh : X.A.in1.handled = none := I.ok.hd hc
    obtain ⟨f0, f1, f2, f3, f4, f5⟩ := hf it (by simp)
    have hl := rv.length
    exact wpAny_pyNext_enum_endD (draws_endTe hh it a (items := its.toArray) (i := i) (by simp; omega)) he ⟨rfl, hit, p⟩ fun h' eb => ⟨rfl, I.turned (t' := s.toks) (fun b o hb q => eb b o hb q) f0 f1 f3 f4 f5⟩
  self := fun A i s Q E st h => let ⟨⟨_, he⟩, _⟩ := st; wpAny_pyIter_enum he h
def iEnumT (K : PySem.W.Frag) (ta : TA) : TI := fun σ H R => ta σ H fun vs H1 => ∃ a xs, vs = [.ref a] ∧ SqT K H1 a xs ∧ R (IteT K a) H1
theorem pi_enumT {X : Cx} {e : Expr} {ta : TA} {p pos tpos : Pos} {elts : List Expr} {kk : Nat} (hg : Gl X "enumerate") (hm : X.mg "enumerate" = none) (ha : PA X [e] ta) (hs : starEach [e] X.env = [(false, eval e X.env)] := by rfl) :
    PI X (.Tuple elts kk tpos) (.Call (.Name "enumerate" p) [e] [] pos) (iEnumT X.K ta) := by
  refine ⟨fun pins s σ H R I h => ?_⟩
  refine Call_ (ld_blt I hg hm boot_enumerate (PyProof.Rows.callWith_type1 (thn (ha.run pos pins s σ H _ I h) fun us s1 ⟨vs, H1, I1, r1, q1⟩ => ?_) hs rfl))
  obtain ⟨a, xs, ex, hq, q⟩ := q1
  subst ex
  cases r1 with
  | cons r rr =>
    cases rr
    cases r
    obtain ⟨its, rv, p', _⟩ := I1.tuple hq
    refine enum1_begins (PySem.begins_tuple a its.toArray) p' fun h' he hit hsz hk => wpAny_pyIter_enum he ?_
    have I2 : Inv X pins σ H1 { s1 with heap := h' } := I1.kept (t' := s1.toks) hk
    refine ⟨s1.heap.objs.size + 1, [s1.heap.objs.size + 1, s1.heap.objs.size], _, _, H1, rfl, I2, turn_enumT a (s1.heap.objs.size + 1) s1.heap.objs.size, ⟨⟨.none, he⟩, ⟨_, hit, rfl, rfl⟩, Nat.succ_ne_self _⟩, fun b hb => ?_, q⟩
    have e' : b = s1.heap.objs.size + 1 ∨ b = s1.heap.objs.size := by simpa using hb
    have hle : s1.heap.objs.size ≤ b := by
      rcases e' with z | z
      · rw [z]; exact Nat.le_add_right _ _
      · rw [z]; exact Nat.le_refl _
    exact I1.fpOk hle (I1.hok.fresh hle)
def cEnT (f : EF) : LF := fun ρ => (f ρ).bind fun d => match d with
  | .tuple ds => some (enL 0 ds)
  | _ => none
theorem fi_enumT {X : Cx} {M : Mem} {e : Expr} {f : EF} {pos p tpos : Pos} {elts : List Expr} {kk : Nat} (hM : MemOk M) (hg : Gl X "enumerate") (hm : X.mg "enumerate" = none) (ha : FE X M e f) (hs : starEach [e] X.env = [(false, eval e X.env)] := by rfl) :
    FI X M (.Tuple elts kk tpos) (.Call (.Name "enumerate" p) [e] [] pos) (cEnT f) :=
  PI.imp (pi_enumT hg hm (fa_cons ha fa_nil (hs.trans rfl)) hs) fun σ H R q => by
    obtain ⟨H0, av0, av, ρ, ds, c, e, k⟩ := q
    obtain ⟨d, e1, e⟩ := bind_some e
    split at e
    · rename_i es
      cases e
      refine ⟨H0, av0, av, ρ, [.tuple es], c, ?_, fun vs H1 k1 b1 => ?_⟩
      · unfold cCons cNil; rw [e1]; rfl
      · cases b1 with
        | cons b r =>
          cases r
          cases b with
          | tup hx b =>
            rename_i a xs
            refine ⟨_, _, rfl, SqT.of hx, k _ _ k1 ?_⟩
            intro i av' H2 s hd kk
            have h2 : H2 a = some (.tup xs) := kk.tup a xs hx
            refine ⟨fun d g => ?_, fun g => ?_⟩
            · rw [enL_get] at g
              cases g1 : es[i]? with
              | none => rw [g1] at g; cases g
              | some d1 =>
                rw [g1] at g
                cases g
                obtain ⟨v, e1, bv⟩ := b.get g1
                refine ⟨⟨xs, v, SqT.of h2, e1⟩, fun x H3 y => ?_⟩
                obtain ⟨T, x1, rfl, nT, rfl, fx⟩ := y
                have e2 := fx xs (SqT.of h2)
                rw [e1] at e2
                cases e2
                have kn := Kp.new (o := HO.tup [.int (i : Nat), v]) hM nT
                refine ⟨kn, .tup upd_same (.cons ?_ (.cons ((bv.later s kk).mono kn.of) .nil))⟩
                rw [Nat.zero_add]
                exact .int _
            · rw [enL_get] at g
              cases g1 : es[i]? with
              | none => exact ⟨xs, SqT.of h2, b.none_of g1⟩
              | some d1 => rw [g1] at g; cases g
    · cases e
end G

namespace G
open PySem

/-! ## steps of the plain functions -/
section
variable {F G' B : SF} {f h : EF} {r it : LF} {t : BF} {g : GF} {ρ ρ1 ρ2 : Ev} {d e : D} {ds es : List D} {i j : Nat} {b : Bool} {o : Option Out}
theorem seq_nx (h : F ρ = some (.nx ρ1)) : cSeq F G' ρ = G' ρ1 := by unfold cSeq; rw [h]; rfl
theorem seq_rt (h : F ρ = some (.rt d)) : cSeq F G' ρ = some (.rt d) := by unfold cSeq; rw [h]; rfl
theorem seq_ct (h : F ρ = some (.ct ρ1)) : cSeq F G' ρ = some (.ct ρ1) := by unfold cSeq; rw [h]; rfl
theorem seq_bk (h : F ρ = some (.bk ρ1)) : cSeq F G' ρ = some (.bk ρ1) := by unfold cSeq; rw [h]; rfl
theorem seq_set (h : f ρ = some d) : cSeq (cAsg f (gV i)) G' ρ = G' (ρ.set i (.va d)) := by unfold cSeq cAsg gV; rw [h]; rfl
theorem set_nx (h : f ρ = some d) : cAsg f (gV i) ρ = some (.nx (ρ.set i (.va d))) := by unfold cAsg gV; rw [h]; rfl
theorem asg_nx (h : f ρ = some d) (h2 : g d ρ = some ρ1) : cAsg f g ρ = some (.nx ρ1) := by unfold cAsg; rw [h]; show (g d ρ).bind _ = _; rw [h2]; rfl
theorem seq_asg (h : f ρ = some d) (h2 : g d ρ = some ρ1) : cSeq (cAsg f g) G' ρ = G' ρ1 := seq_nx (asg_nx h h2)
theorem seq_own (h : r ρ = some ds) : cSeq (cOwn i r) G' ρ = G' (ρ.set i (.ow ds)) := by unfold cSeq cOwn; rw [h]; rfl
theorem own_nx (h : r ρ = some ds) : cOwn i r ρ = some (.nx (ρ.set i (.ow ds))) := by unfold cOwn; rw [h]; rfl
theorem seq_frz (h : ρ[i]? = some (.ow ds)) : cSeq (cFrz i) G' ρ = G' (ρ.set i (.va (.list ds))) := by unfold cSeq cFrz; rw [h]; rfl
theorem app_nx (h : ρ[i]? = some (.ow ds)) (h2 : f ρ = some d) (h3 : ds.length < lim) : cApp i f ρ = some (.nx (ρ.set i (.ow (ds ++ [d])))) := by
  unfold cApp; rw [h]; show (f ρ).bind _ = _; rw [h2]; exact if_pos h3
theorem ext_nx (h : ρ[i]? = some (.ow ds)) (h2 : f ρ = some (.list es)) (h3 : ds.length + es.length ≤ lim) : cExt i f ρ = some (.nx (ρ.set i (.ow (ds ++ es)))) := by
  unfold cExt; rw [h]; show (f ρ).bind _ = _; rw [h2]; exact if_pos h3
theorem put_nx {kf : EF} {k : Int} (h1 : f ρ = some d) (h : ρ[i]? = some (.ow ds)) (hk : kf ρ = some (.int k)) (h3 : L2.ixN ds.length k = some j) : cPut i f kf ρ = some (.nx (ρ.set i (.ow (ds.set j d)))) := by
  unfold cPut; rw [h1]; show (match ρ[i]? with | some (.ow ds) => _ | _ => _) = _; rw [h]; show (kf ρ).bind _ = _; rw [hk]; show (L2.ixN _ _).bind _ = _; rw [h3]; rfl
theorem ifS_T (h : t ρ = some true) : cIfS t F G' ρ = F ρ := by unfold cIfS; rw [h]; rfl
theorem ifS_F (h : t ρ = some false) : cIfS t F G' ρ = G' ρ := by unfold cIfS; rw [h]; rfl
theorem ret_rt (h : f ρ = some d) : cRet f ρ = some (.rt d) := by unfold cRet; rw [h]; rfl
theorem run_rt {n : Nat} (h : B (startE n ds) = some (.rt d)) : runF n B ds = some d := by unfold runF; rw [h]; rfl
theorem run_nx {n : Nat} (h : B (startE n ds) = some (.nx ρ)) : runF n B ds = some .none := by unfold runF; rw [h]; rfl
theorem for_eq (h : it ρ = some ds) : cFor it g B ρ = forL g B ds ρ := by unfold cFor; rw [h]; rfl
theorem forL_nil : forL g B [] ρ = some (.nx ρ) := rfl
theorem forL_cons (h1 : g d ρ = some ρ1) (h2 : B ρ1 = some (.nx ρ2)) : forL g B (d :: ds) ρ = forL g B ds ρ2 := by
  show (g d ρ).bind _ = _; rw [h1]; show (B ρ1).bind _ = _; rw [h2]; rfl
theorem forL_ct (h1 : g d ρ = some ρ1) (h2 : B ρ1 = some (.ct ρ2)) : forL g B (d :: ds) ρ = forL g B ds ρ2 := by
  show (g d ρ).bind _ = _; rw [h1]; show (B ρ1).bind _ = _; rw [h2]; rfl
theorem forL_rt (h1 : g d ρ = some ρ1) (h2 : B ρ1 = some (.rt e)) : forL g B (d :: ds) ρ = some (.rt e) := by
  show (g d ρ).bind _ = _; rw [h1]; show (B ρ1).bind _ = _; rw [h2]; rfl
theorem forL_bk (h1 : g d ρ = some ρ1) (h2 : B ρ1 = some (.bk ρ2)) : forL g B (d :: ds) ρ = some (.nx ρ2) := by
  show (g d ρ).bind _ = _; rw [h1]; show (B ρ1).bind _ = _; rw [h2]; rfl
theorem while_F {n : Nat} (h : t ρ = some false) : whileN t B (n + 1) ρ = some (.nx ρ) := by show (t ρ).bind _ = _; rw [h]; rfl
theorem while_T {n : Nat} (h : t ρ = some true) (h2 : B ρ = some (.nx ρ1)) : whileN t B (n + 1) ρ = whileN t B n ρ1 := by
  show (t ρ).bind _ = _; rw [h]; show (B ρ).bind _ = _; rw [h2]; rfl
theorem while_bk {n : Nat} (h : t ρ = some true) (h2 : B ρ = some (.bk ρ1)) : whileN t B (n + 1) ρ = some (.nx ρ1) := by
  show (t ρ).bind _ = _; rw [h]; show (B ρ).bind _ = _; rw [h2]; rfl
theorem while_rt {n : Nat} (h : t ρ = some true) (h2 : B ρ = some (.rt d)) : whileN t B (n + 1) ρ = some (.rt d) := by
  show (t ρ).bind _ = _; rw [h]; show (B ρ).bind _ = _; rw [h2]; rfl
/-! ### expressions -/
theorem e1 {g : D → Option D} {o : Option D} (h : f ρ = some d) (hg : g d = o) : c1 g f ρ = o := by unfold c1; rw [h]; exact hg
theorem e2 {g : D → D → Option D} {o : Option D} (h1 : f ρ = some d) (h2 : h ρ = some e) (hg : g d e = o) : c2 g f h ρ = o := by unfold c2; rw [h1]; show (h ρ).bind _ = _; rw [h2]; exact hg
theorem eT {g : D → Option Bool} {o : Option Bool} (h : f ρ = some d) (hg : g d = o) : cT1 g f ρ = o := by unfold cT1; rw [h]; exact hg
theorem eC {g : List D → Option D} {o : Option D} (h : r ρ = some ds) (hg : g ds = o) : cCall g r ρ = o := by unfold cCall; rw [h]; exact hg
theorem eCons (h1 : f ρ = some d) (h2 : r ρ = some ds) : cCons f r ρ = some (d :: ds) := by unfold cCons; rw [h1]; show (r ρ).bind _ = _; rw [h2]; rfl
theorem eArgs {n : Nat} (h : r ρ = some ds) (hl : ds.length = n) : cArgs n r ρ = some ds := by unfold cArgs; rw [h]; exact if_pos hl
theorem eTup (h : r ρ = some ds) (hl : ds.length ≤ 1000) : cTup r ρ = some (.tuple ds) := by unfold cTup; rw [h]; exact if_pos hl
theorem eChk {n : Nat} (h : r ρ = some ds) (hl : ds.length ≤ n) : chk n r ρ = some ds := by unfold chk; rw [h]; exact if_pos hl
theorem eL (h : r ρ = some ds) : cL r ρ = some (.list ds) := by unfold cL; rw [h]; rfl
theorem eLc {vs : List Nat} (h : it ρ = some ds) (hl : ds.length ≤ lim) : cLc it vs g t f ρ = lcL (wipeE ρ vs) g t f ds := by unfold cLc; rw [h]; exact if_pos hl
theorem lc_nil : lcL ρ g t f [] = some [] := rfl
theorem lc_T (h1 : g d ρ = some ρ1) (h2 : t ρ1 = some true) (h3 : f ρ1 = some e) (h4 : lcL ρ g t f ds = some es) : lcL ρ g t f (d :: ds) = some (e :: es) := by
  show (g d ρ).bind _ = _; rw [h1]; show (t ρ1).bind _ = _; rw [h2]; show (f ρ1).bind _ = _; rw [h3]; show (lcL ρ g t f ds).bind _ = _; rw [h4]; rfl
theorem lc_F (h1 : g d ρ = some ρ1) (h2 : t ρ1 = some false) (h4 : lcL ρ g t f ds = some es) : lcL ρ g t f (d :: ds) = some es := by
  show (g d ρ).bind _ = _; rw [h1]; show (t ρ1).bind _ = _; rw [h2]; exact h4
/-- a comprehension over coded items: it filters and maps -/
theorem lc_map {α : Type} {enc : α → D} {out : α → D} {p : α → Bool} : ∀ {l : List α}, (∀ a ∈ l, ∃ ρ1, g (enc a) ρ = some ρ1 ∧ t ρ1 = some (p a) ∧ (p a = true → f ρ1 = some (out a))) → lcL ρ g t f (l.map enc) = some ((l.filter p).map out)
  | [], _ => rfl
  | a :: l, H => by
    obtain ⟨ρ1, h1, h2, h3⟩ := H a List.mem_cons_self
    have ih := lc_map (l := l) fun b hb => H b (List.mem_cons_of_mem _ hb)
    cases hp : p a with
    | true => rw [List.map_cons, lc_T h1 (hp ▸ h2) (h3 hp) ih, List.filter_cons_of_pos hp]; rfl
    | false => rw [List.map_cons, lc_F h1 (hp ▸ h2) ih, List.filter_cons_of_neg (by rw [hp]; decide)]
theorem add_int (a b : Int) : addD (.int a) (.int b) = some (.int (a + b)) := rfl
theorem mul_int {a b : Int} (h : (-(2 ^ 64) < a ∧ a < 2 ^ 64) ∨ (-(2 ^ 64) < b ∧ b < 2 ^ 64)) : mulD (.int a) (.int b) = some (.int (a * b)) := if_pos h
theorem mod_int {a b : Int} (h : 0 < b) : modD (.int a) (.int b) = some (.int (a % b)) := if_pos h
theorem fdiv_int {a b : Int} (h : 0 < b ∧ b < 1073741824) : fdivD (.int a) (.int b) = some (.int (a / b)) := if_pos h
/-! ### in a row -/
theorem s_set (h : f ρ = some d) (k : G' (ρ.set i (.va d)) = o) : cSeq (cAsg f (gV i)) G' ρ = o := (seq_set h).trans k
theorem s_asg (h : f ρ = some d) (h2 : g d ρ = some ρ1) (k : G' ρ1 = o) : cSeq (cAsg f g) G' ρ = o := (seq_asg h h2).trans k
theorem s_own (h : r ρ = some ds) (k : G' (ρ.set i (.ow ds)) = o) : cSeq (cOwn i r) G' ρ = o := (seq_own h).trans k
theorem s_frz (h : ρ[i]? = some (.ow ds)) (k : G' (ρ.set i (.va (.list ds))) = o) : cSeq (cFrz i) G' ρ = o := (seq_frz h).trans k
theorem s_app (h : ρ[i]? = some (.ow ds)) (h2 : f ρ = some d) (h3 : ds.length < lim) (k : G' (ρ.set i (.ow (ds ++ [d]))) = o) : cSeq (cApp i f) G' ρ = o := (seq_nx (app_nx h h2 h3)).trans k
theorem s_ext (h : ρ[i]? = some (.ow ds)) (h2 : f ρ = some (.list es)) (h3 : ds.length + es.length ≤ lim) (k : G' (ρ.set i (.ow (ds ++ es))) = o) : cSeq (cExt i f) G' ρ = o := (seq_nx (ext_nx h h2 h3)).trans k
theorem s_ifT (h : t ρ = some true) (k : cSeq F G' ρ = o) : cSeq (cIfS t F B) G' ρ = o := by unfold cSeq at k ⊢; rw [ifS_T h]; exact k
theorem s_ifF (h : t ρ = some false) (k : cSeq B G' ρ = o) : cSeq (cIfS t F B) G' ρ = o := by unfold cSeq at k ⊢; rw [ifS_F h]; exact k
theorem s_nx (h : F ρ = some (.nx ρ1)) (k : G' ρ1 = o) : cSeq F G' ρ = o := (seq_nx h).trans k
theorem s_next (k : G' ρ = o) : cSeq cNext G' ρ = o := (seq_nx rfl).trans k
theorem s_for (h : it ρ = some ds) (h2 : forL g B ds ρ = some (.nx ρ1)) (k : G' ρ1 = o) : cSeq (cFor it g B) G' ρ = o := (seq_nx ((for_eq h).trans h2)).trans k
theorem s_forR (h : it ρ = some ds) (h2 : forL g B ds ρ = some (.rt d)) (k : some (.rt d) = o) : cSeq (cFor it g B) G' ρ = o := (seq_rt ((for_eq h).trans h2)).trans k
theorem s_ret (h : f ρ = some d) (k : some (.rt d) = o) : cSeq (cRet f) G' ρ = o := (seq_rt (ret_rt h)).trans k
theorem r_ret (h : f ρ = some d) (k : some (.rt d) = o) : cRet f ρ = o := (ret_rt h).trans k
theorem i_T (h : t ρ = some true) (k : F ρ = o) : cIfS t F B ρ = o := (ifS_T h).trans k
theorem i_F (h : t ρ = some false) (k : B ρ = o) : cIfS t F B ρ = o := (ifS_F h).trans k
theorem and_T {u : BF} {b : Bool} (h : t ρ = some true) (k : u ρ = some b) : cAnd t u ρ = some b := by unfold cAnd; rw [h]; exact k
theorem and_F {u : BF} (h : t ρ = some false) : cAnd t u ρ = some false := by unfold cAnd; rw [h]; rfl
theorem or_F {u : BF} {b : Bool} (h : t ρ = some false) (k : u ρ = some b) : cOr t u ρ = some b := by unfold cOr; rw [h]; exact k
theorem or_T {u : BF} (h : t ρ = some true) : cOr t u ρ = some true := by unfold cOr; rw [h]; rfl
theorem and_2 {u : BF} {b c : Bool} (h : t ρ = some b) (k : u ρ = some c) : cAnd t u ρ = some (b && c) := by
  cases b with
  | true => exact and_T h k
  | false => exact and_F h
theorem or_2 {u : BF} {b c : Bool} (h : t ρ = some b) (k : u ρ = some c) : cOr t u ρ = some (b || c) := by
  cases b with
  | true => exact or_T h
  | false => exact or_F h k
theorem not_1 {b : Bool} (h : t ρ = some b) : cNot t ρ = some (!b) := by unfold cNot; rw [h]; rfl
theorem andV_T {o : Option D} (h1 : f ρ = some (.bool true)) (k : h ρ = o) : cAndV f h ρ = o := by unfold cAndV; rw [h1]; exact k
theorem andV_F (h1 : f ρ = some (.bool false)) : cAndV f h ρ = some (.bool false) := by unfold cAndV; rw [h1]; rfl
theorem orV_F {o : Option D} (h1 : f ρ = some (.bool false)) (k : h ρ = o) : cOrV f h ρ = o := by unfold cOrV; rw [h1]; exact k
theorem orV_T (h1 : f ρ = some (.bool true)) : cOrV f h ρ = some (.bool true) := by unfold cOrV; rw [h1]; rfl
theorem andV_2 {b c : Bool} (h1 : f ρ = some (.bool b)) (k : h ρ = some (.bool c)) : cAndV f h ρ = some (.bool (b && c)) := by
  cases b with
  | true => exact andV_T h1 k
  | false => exact andV_F h1
theorem orV_2 {b c : Bool} (h1 : f ρ = some (.bool b)) (k : h ρ = some (.bool c)) : cOrV f h ρ = some (.bool (b || c)) := by
  cases b with
  | true => exact orV_T h1
  | false => exact orV_F h1 k
theorem if_e {b : Bool} {x : D} (h0 : t ρ = some b) (h1 : b = true → f ρ = some d) (h2 : b = false → h ρ = some e) : cIf t f h ρ = some (if b then d else e) := by
  unfold cIf; rw [h0]
  cases b with
  | true => exact h1 rfl
  | false => exact h2 rfl
theorem eSl {l u : OF} {lo hi : Option Int} {o : Option D} (h1 : f ρ = some d) (h2 : l ρ = some lo) (h3 : u ρ = some hi) (k : slD d lo hi = o) : cSl f l u ρ = o := by
  unfold cSl; rw [h1]; show (l ρ).bind _ = _; rw [h2]; show (u ρ).bind _ = _; rw [h3]; exact k
theorem ePt {i : Int} (h1 : f ρ = some (.int i)) : cPt f ρ = some (some i) := by unfold cPt; rw [h1]; rfl
theorem eIt (h1 : f ρ = some (.list ds)) : cIt f ρ = some ds := by unfold cIt; rw [h1]; rfl
theorem eItT (h1 : f ρ = some (.tuple ds)) : cItT f ρ = some ds := by unfold cItT; rw [h1]; rfl
theorem eRg1 {n : Int} (h1 : f ρ = some (.int n)) (hn : -(2 ^ 62) ≤ n ∧ n < 2 ^ 62) : cRg1 f ρ = some (rgL 0 n.toNat) := by unfold cRg1; rw [h1]; exact if_pos hn
theorem eRg2 {m n : Int} (h1 : f ρ = some (.int m)) (h2 : h ρ = some (.int n)) (hn : -(2 ^ 62) ≤ m ∧ m < 2 ^ 62 ∧ -(2 ^ 62) ≤ n ∧ n < 2 ^ 62) : cRg2 f h ρ = some (rgL m (n - m).toNat) := by
  unfold cRg2; rw [h1]; show (h ρ).bind _ = _; rw [h2]; exact if_pos hn
theorem par_nx {i j : Nat} (h : r ρ = some [d, e]) (k : (ρ.set i (.va d)).set j (.va e) = ρ1) : cPar i j r ρ = some (.nx ρ1) := by
  subst k; unfold cPar; rw [h]; rfl
theorem eCat {fs : List D} (h1 : f ρ = some (.list ds)) (h2 : h ρ = some (.list es)) (hl : ds.length + es.length ≤ lim) (e : fs = ds ++ es) : cCat f h ρ = some fs := by
  subst e; unfold cCat; rw [h1]; show (h ρ).bind _ = _; rw [h2]; exact if_pos hl
theorem eRg3 {l : EF} {m n : Int} (h1 : f ρ = some (.int m)) (h2 : h ρ = some (.int n)) (h3 : l ρ = some (.int (-1))) (hn : -(2 ^ 62) ≤ m ∧ m < 2 ^ 62 ∧ -(2 ^ 62) ≤ n ∧ n < 2 ^ 62) : cRg3 f h l ρ = some (rcL m (-1) (m - n).toNat) := by
  unfold cRg3; rw [h1]; show (h ρ).bind _ = _; rw [h2]; show (l ρ).bind _ = _; rw [h3]; exact if_pos ⟨hn.1, hn.2.1, hn.2.2.1, hn.2.2.2, rfl⟩
theorem eEn (h1 : f ρ = some (.list ds)) : cEn f ρ = some (enL 0 ds) := by unfold cEn; rw [h1]; rfl
theorem eq_int (a b : Int) : eqD (.int a) (.int b) = some (.bool (decide (a = b))) := by
  show (if SeqAt.shaped (.int a) = true ∧ SeqAt.shaped (.int b) = true then some (PyData.bool (a == b)) else none) = _
  rw [if_pos ⟨rfl, rfl⟩, Bool.beq_eq_decide_eq]
theorem ne_int (a b : Int) : neD (.int a) (.int b) = some (.bool (!decide (a = b))) := by
  show (if SeqAt.shaped (.int a) = true ∧ SeqAt.shaped (.int b) = true then some (PyData.bool (!(a == b))) else none) = _
  rw [if_pos ⟨rfl, rfl⟩, Bool.beq_eq_decide_eq]
end
end G

namespace LW
open PySem PySem.Spec PyProof.Rows L2 G
/-! ### the text -/
def topS (i : Nat) : Stmt := PySem.Challenge.pw_pegrows_k39_lists_anywhere_in_papers.main.body.getD i (.Pass ⟨0, 0, 0, 0⟩)
def clsS (i j : Nat) : Stmt := match topS i with
  | .ClassDef _ _ _ body _ _ _ _ _ _ _ => body.getD j (.Pass ⟨0, 0, 0, 0⟩)
  | _ => .Pass ⟨0, 0, 0, 0⟩
def lamO : Option (Arguments × Expr × Scope) := match defBody (topS 52) with
  | [_, _, .Return (some (.Call _ [_, _, .Lambda a b s _] _ _)) _] => some (a, b, s)
  | _ => none
def lamT : Arguments × Expr × Scope := lamO.get rfl
instance lamI : LamOf where
  params := lamT.1
  body := lamT.2.1
  scope := lamT.2.2
  var := "_law_number"
theorem lam_ok : LamOk lamI.scope "_law_bent_part" lamI.var := lamOk_by rfl rfl rfl (by decide +kernel) rfl rfl (by decide +kernel) (by decide +kernel)
theorem lam_fr : ∀ y ∈ lamI.scope.names, y.2 = .free → y.1 = lamI.var := by decide +kernel
theorem lam_cl (cc : Addr) : cloFrom [(lamI.var, cc)] lamI.scope.names [] = [(lamI.var, cc)] := by rfl
section
variable {P : Program} {w : World} {K : PySem.W.Frag} {mg : Str → Option Value} {base : Heap} {vf : NestedKey → Int} {C : Addr} {S : List NestedKey}
abbrev s_is_whole : Stmt := topS 7
abbrev N_is_whole : List Str := ["thing", "low", "high"]
theorem sc_is_whole : FnScope N_is_whole ["thing", "low", "high"] (defScope s_is_whole) := ⟨rfl, rfl, rfl, by decide +kernel, rfl, by decide +kernel, by decide +kernel⟩
def B_is_whole : SF := (cRet (cAndV (c1 (isiD "int") (cV 0)) (cAndV (c1 notD (c1 (isiD "bool") (cV 0))) (cChn leD leD (cV 1) (cV 0) (cV 2)))))
@[irreducible] def F_is_whole : List D → Option D := runF 3 (B_is_whole)
theorem F_is_whole_def : F_is_whole = runF 3 (B_is_whole) := by unfold F_is_whole; rfl
theorem ok_is_whole {fi : Addr} {fdi : FuncData} (hM : MemOk (memV P w vf C S)) (hW : MemW (memV P w vf C S)) (hB : Bt mg) (cl_V : L2.Cls K C) (na_V : L2.NoAttr K C "known") (mk_V : L2.Mk K C fi) (F_init : FnOk P w K mg base CX0 1 fi fdi ["self"] (spInit P w C)) (b_init : L2.Binds K fdi ["self"] []) (m_V : mg "Values" = some (.ref C)) {f : Addr} {fd : FuncData} (Fn : Fun K "is_whole" "is_whole" s_is_whole f fd) : FnOk P w K mg base CX0 3 f fd ["thing", "low", "high"] (spF K (memV P w vf C S) 3 (F_is_whole)) :=
  F_is_whole_def ▸ fun_ok Fn sc_is_whole fun cdv A outer s H E hr => (fss_one (fs_ret (fe_and (fe_isi (Tn := "int") (by rfl) hB.isinstance (by rfl) hB.int (by rfl) (fk_of (fe_var 0 (pv 0)))) (fe_and (fe_not (fe_isi (Tn := "bool") (by rfl) hB.isinstance (by rfl) hB.bool (by rfl) (fk_of (fe_var 0 (pv 0))))) (fe_one (fe_chn o_le o_le (fk_of (fe_var 1 (pv 1))) (fk_of (fe_var 0 (pv 0))) (fk_of (fe_var 2 (pv 2)))))))))
abbrev s_is_card : Stmt := topS 8
abbrev N_is_card : List Str := ["thing"]
theorem sc_is_card : FnScope N_is_card ["thing"] (defScope s_is_card) := ⟨rfl, rfl, rfl, by decide +kernel, rfl, by decide +kernel, by decide +kernel⟩
def B_is_card : SF := (cSeq (cIfS (cOr (cNot (cT1 asB (c1 (isiD "tuple") (cV 0)))) (cT1 asB (c2 neD (cCall lenD (cCons (cV 0) cNil)) (cC (.int 2))))) (cRet (cC (.bool false))) cNext)
  (cRet (cAndV (cCall F_is_whole (cArgs 3 (cCons (c2 ixD (cV 0) (cC (.int 0))) (cCons (cC (.int 1)) (cCons (cCall lenD (cCons (cC (.str "a23456789tjqk")) cNil)) cNil))))) (cCall F_is_whole (cArgs 3 (cCons (c2 ixD (cV 0) (cC (.int 1))) (cCons (cC (.int 0)) (cCons (c2 subD (cCall lenD (cCons (cC (.str "cdhs")) cNil)) (cC (.int 1))) cNil))))))))
@[irreducible] def F_is_card : List D → Option D := runF 1 (B_is_card)
theorem F_is_card_def : F_is_card = runF 1 (B_is_card) := by unfold F_is_card; rfl
theorem ok_is_card {fi : Addr} {fdi : FuncData} (hM : MemOk (memV P w vf C S)) (hW : MemW (memV P w vf C S)) (hB : Bt mg) (cl_V : L2.Cls K C) (na_V : L2.NoAttr K C "known") (mk_V : L2.Mk K C fi) (F_init : FnOk P w K mg base CX0 1 fi fdi ["self"] (spInit P w C)) (b_init : L2.Binds K fdi ["self"] []) (m_V : mg "Values" = some (.ref C)) (g_SUITS : ∃ t, mg "SUITS" = some (.str "cdhs" t)) (g_RANKS : ∃ t, mg "RANKS" = some (.str "a23456789tjqk" t)) (C_is_whole : Cal P w K mg base (memV P w vf C S) "is_whole" 3 3 F_is_whole) {f : Addr} {fd : FuncData} (Fn : Fun K "is_card" "is_card" s_is_card f fd) : FnOk P w K mg base CX0 4 f fd ["thing"] (spF K (memV P w vf C S) 1 (F_is_card)) :=
  F_is_card_def ▸ fun_ok Fn sc_is_card fun cdv A outer s H E hr => (fss_cons (fs_if (fw_pt (fw_or (ft_not (ft_val (fe_isi (Tn := "tuple") (by rfl) hB.isinstance (by rfl) hB.tuple (by rfl) (fk_of (fe_var 0 (pv 0)))))) (fw_or1 (ft_cmp (o_ne (u64 hr)) (fk_of (fe_callB c_len (by rfl) hB.len (by rfl) (fak_cons (fk_of (fe_var 0 (pv 0))) fak_nil))) (fk_of fe_int) (by rfl))))) (fss_one (fs_ret fe_bl)) fss_nil)
      (fss_one (fs_ret (fe_and (fe_cal C_is_whole hr (by decide) (by rfl) (fa_cons (fe_ix o_ix (fk_of (fe_var 0 (pv 0))) (fk_of fe_int) (fun _ _ => rfl)) (fa_cons fe_int (fa_cons (fe_callB c_len (by rfl) hB.len (by rfl) (fak_cons (fk_of (fe_gstr (by rfl) g_RANKS)) fak_nil)) fa_nil)))) (fe_one (fe_cal C_is_whole hr (by decide) (by rfl) (fa_cons (fe_ix o_ix (fk_of (fe_var 0 (pv 0))) (fk_of fe_int) (fun _ _ => rfl)) (fa_cons fe_int (fa_cons (fe_op o_sub (fk_of (fe_callB c_len (by rfl) hB.len (by rfl) (fak_cons (fk_of (fe_gstr (by rfl) g_SUITS)) fak_nil))) (fk_of fe_int)) fa_nil)))))))))
abbrev s_worth : Stmt := topS 9
abbrev N_worth : List Str := ["card"]
theorem sc_worth : FnScope N_worth ["card"] (defScope s_worth) := ⟨rfl, rfl, rfl, by decide +kernel, rfl, by decide +kernel, by decide +kernel⟩
def B_worth : SF := (cRet (cCall minD (cCons (c2 ixD (cV 0) (cC (.int 0))) (cCons (cC (.int 10)) cNil))))
@[irreducible] def F_worth : List D → Option D := runF 1 (B_worth)
theorem F_worth_def : F_worth = runF 1 (B_worth) := by unfold F_worth; rfl
theorem ok_worth {fi : Addr} {fdi : FuncData} (hM : MemOk (memV P w vf C S)) (hW : MemW (memV P w vf C S)) (hB : Bt mg) (cl_V : L2.Cls K C) (na_V : L2.NoAttr K C "known") (mk_V : L2.Mk K C fi) (F_init : FnOk P w K mg base CX0 1 fi fdi ["self"] (spInit P w C)) (b_init : L2.Binds K fdi ["self"] []) (m_V : mg "Values" = some (.ref C)) (g_MOST_WORTH : ∃ t, mg "MOST_WORTH" = some (.int 10 t)) {f : Addr} {fd : FuncData} (Fn : Fun K "worth" "worth" s_worth f fd) : FnOk P w K mg base CX0 3 f fd ["card"] (spF K (memV P w vf C S) 1 (F_worth)) :=
  F_worth_def ▸ fun_ok Fn sc_worth fun cdv A outer s H E hr => (fss_one (fs_ret (fe_callB (c_min rfl (u65 hr)) (by rfl) hB.min (by rfl) (fak_cons (fk_of (fe_ix o_ix (fk_of (fe_var 0 (pv 0))) (fk_of fe_int) (fun _ _ => rfl))) (fak_cons (fk_of (fe_gint (by rfl) g_MOST_WORTH)) fak_nil)))))
abbrev s_is_run : Stmt := topS 12
abbrev N_is_run : List Str := ["cards", "ranks", "card", "at", "rank"]
theorem sc_is_run : FnScope N_is_run ["cards"] (defScope s_is_run) := ⟨rfl, rfl, rfl, by decide +kernel, rfl, by decide +kernel, by decide +kernel⟩
def B_is_run : SF := (cSeq (cAsg (cCall sortedD (cCons (cL (cLc (cItT (cV 0)) [2] (gV 2) cYes (c2 ixD (cV 2) (cC (.int 0))))) cNil)) (gV 1))
  (cRet (cCall allD (cCons (cL (cLc (cEn (cV 1)) [3, 4] (gT 2 (gC (gV 3) (gC (gV 4) gN))) cYes (c2 eqD (cV 4) (c2 addD (c2 ixD (cV 1) (cC (.int 0))) (cV 3))))) cNil))))
@[irreducible] def F_is_run : List D → Option D := runF 5 (B_is_run)
theorem F_is_run_def : F_is_run = runF 5 (B_is_run) := by unfold F_is_run; rfl
theorem ok_is_run {fi : Addr} {fdi : FuncData} (hM : MemOk (memV P w vf C S)) (hW : MemW (memV P w vf C S)) (hB : Bt mg) (cl_V : L2.Cls K C) (na_V : L2.NoAttr K C "known") (mk_V : L2.Mk K C fi) (F_init : FnOk P w K mg base CX0 1 fi fdi ["self"] (spInit P w C)) (b_init : L2.Binds K fdi ["self"] []) (m_V : mg "Values" = some (.ref C)) {f : Addr} {fd : FuncData} (Fn : Fun K "is_run" "is_run" s_is_run f fd) : FnOk P w K mg base CX0 3 f fd ["cards"] (spF K (memV P w vf C S) 1 (F_is_run)) :=
  F_is_run_def ▸ fun_ok Fn sc_is_run fun cdv A outer s H E hr => (fss_cons (fs_set (ps_set (i := 1) sc_is_run.nd rfl (by first | exact Or.inl rfl | exact Or.inr rfl) (fe_callB (c_sorted hM rfl (u65 hr)) (by rfl) hB.sorted (by rfl) (fak_cons (fk_of (fe_new (fn_lc hM hW rfl sc_is_run.nd (FI.zero (fi_tup (fe_var 0 (pv 0)))) (blkOk_by (own := [("card", 2)]) (N := N_is_run) (sc := defScope s_is_run) (by decide +kernel)) (fun _ _ _ _ _ => (fg_name (pg_name (i := 2) sc_is_run.nd rfl (by first | exact Or.inl rfl | exact Or.inr rfl)))) (fun _ _ _ _ _ => fts_nil) (fun _ _ _ _ _ => (fe_ix o_ix (fk_of (fe_var 2 (pv 2))) (fk_of fe_int) (fun _ _ => rfl)))))) fak_nil))))
      (fss_one (fs_ret (fe_callB (c_all rfl) (by rfl) hB.all (by rfl) (fak_cons (fk_of (fe_new (fn_lc hM hW rfl sc_is_run.nd (FI.zero (fi_enum hM (by rfl) hB.enumerate (fe_var 1 (pv 1)))) (blkOk_by (own := [("at", 3), ("rank", 4)]) (N := N_is_run) (sc := defScope s_is_run) (by decide +kernel)) (fun _ _ _ _ _ => (fg_tup (n := 2) rfl (fgs_cons (fg_name (pg_name (i := 3) sc_is_run.nd rfl (by first | exact Or.inl rfl | exact Or.inr rfl))) (fgs_cons (fg_name (pg_name (i := 4) sc_is_run.nd rfl (by first | exact Or.inl rfl | exact Or.inr rfl))) fgs_nil)))) (fun _ _ _ _ _ => fts_nil) (fun _ _ _ _ _ => (fe_cmp (o_eq (u64 hr)) (fk_of (fe_var 4 (pv 4))) (fk_of (fe_op (o_add hM) (fk_of (fe_ix o_ix (fk_of (fe_var 1 (pv 1))) (fk_of fe_int) (fun _ _ => rfl))) (fk_of (fe_var 3 (pv 3))))) (by rfl)))))) fak_nil)))))
abbrev s_sum_of : Stmt := topS 17
abbrev N_sum_of : List Str := ["pile", "card"]
theorem sc_sum_of : FnScope N_sum_of ["pile"] (defScope s_sum_of) := ⟨rfl, rfl, rfl, by decide +kernel, rfl, by decide +kernel, by decide +kernel⟩
def B_sum_of : SF := (cRet (cCall sumD (cCons (cL (cLc (cItT (cV 0)) [1] (gV 1) cYes (cCall F_worth (cArgs 1 (cCons (cV 1) cNil))))) cNil)))
@[irreducible] def F_sum_of : List D → Option D := runF 2 (B_sum_of)
theorem F_sum_of_def : F_sum_of = runF 2 (B_sum_of) := by unfold F_sum_of; rfl
theorem ok_sum_of {fi : Addr} {fdi : FuncData} (hM : MemOk (memV P w vf C S)) (hW : MemW (memV P w vf C S)) (hB : Bt mg) (cl_V : L2.Cls K C) (na_V : L2.NoAttr K C "known") (mk_V : L2.Mk K C fi) (F_init : FnOk P w K mg base CX0 1 fi fdi ["self"] (spInit P w C)) (b_init : L2.Binds K fdi ["self"] []) (m_V : mg "Values" = some (.ref C)) (C_worth : Cal P w K mg base (memV P w vf C S) "worth" 3 1 F_worth) {f : Addr} {fd : FuncData} (Fn : Fun K "sum_of" "sum_of" s_sum_of f fd) : FnOk P w K mg base CX0 4 f fd ["pile"] (spF K (memV P w vf C S) 1 (F_sum_of)) :=
  F_sum_of_def ▸ fun_ok Fn sc_sum_of fun cdv A outer s H E hr => (fss_one (fs_ret (fe_callB (c_sum rfl) (by rfl) hB.sum (by rfl) (fak_cons (fk_of (fe_new (fn_lc hM hW rfl sc_sum_of.nd (FI.zero (fi_tup (fe_var 0 (pv 0)))) (blkOk_by (own := [("card", 1)]) (N := N_sum_of) (sc := defScope s_sum_of) (by decide +kernel)) (fun _ _ _ _ _ => (fg_name (pg_name (i := 1) sc_sum_of.nd rfl (by first | exact Or.inl rfl | exact Or.inr rfl)))) (fun _ _ _ _ _ => fts_nil) (fun _ _ _ _ _ => (fe_cal C_worth hr (by decide) (by rfl) (fa_cons (fe_var 1 (pv 1)) fa_nil)))))) fak_nil))))
abbrev s_alike_behind : Stmt := topS 18
abbrev N_alike_behind : List Str := ["pile", "found"]
theorem sc_alike_behind : FnScope N_alike_behind ["pile"] (defScope s_alike_behind) := ⟨rfl, rfl, rfl, by decide +kernel, rfl, by decide +kernel, by decide +kernel⟩
def B_alike_behind : SF := (cSeq (cAsg (cC (.int 1)) (gV 1))
  (cSeq (whileN (cAnd (cT1 asB (c2 ltD (cV 1) (cCall lenD (cCons (cV 0) cNil)))) (cT1 asB (c2 eqD (c2 ixD (c2 ixD (cV 0) (c2 subD (c1 negD (cV 1)) (cC (.int 1)))) (cC (.int 0))) (c2 ixD (c2 ixD (cV 0) (c1 negD (cC (.int 1)))) (cC (.int 0)))))) (cAsg (c2 addD (cV 1) (cC (.int 1))) (gV 1)) 200)
  (cRet (cV 1))))
@[irreducible] def F_alike_behind : List D → Option D := runF 2 (B_alike_behind)
theorem F_alike_behind_def : F_alike_behind = runF 2 (B_alike_behind) := by unfold F_alike_behind; rfl
theorem ok_alike_behind {fi : Addr} {fdi : FuncData} (hM : MemOk (memV P w vf C S)) (hW : MemW (memV P w vf C S)) (hB : Bt mg) (cl_V : L2.Cls K C) (na_V : L2.NoAttr K C "known") (mk_V : L2.Mk K C fi) (F_init : FnOk P w K mg base CX0 1 fi fdi ["self"] (spInit P w C)) (b_init : L2.Binds K fdi ["self"] []) (m_V : mg "Values" = some (.ref C)) {f : Addr} {fd : FuncData} (Fn : Fun K "alike_behind" "alike_behind" s_alike_behind f fd) : FnOk P w K mg base CX0 3 f fd ["pile"] (spF K (memV P w vf C S) 1 (F_alike_behind)) :=
  F_alike_behind_def ▸ fun_ok Fn sc_alike_behind fun cdv A outer s H E hr => (fss_cons (fs_set (ps_set (i := 1) sc_alike_behind.nd rfl (by first | exact Or.inl rfl | exact Or.inr rfl) fe_int))
      (fss_cons (fs_while 200 PassesOwn.never (fw_pt (fw_and (ft_cmp o_lt (fk_of (fe_var 1 (pv 1))) (fk_of (fe_callB c_len (by rfl) hB.len (by rfl) (fak_cons (fk_of (fe_var 0 (pv 0))) fak_nil))) (by rfl)) (fw_and1 (ft_cmp (o_eq (u64 hr)) (fk_of (fe_ix o_ix (fk_of (fe_ix o_ix (fk_of (fe_var 0 (pv 0))) (fk_of (fe_op o_sub (fk_of (fe_un o_neg (fk_of (fe_var 1 (pv 1))))) (fk_of fe_int))) (fun _ _ => rfl))) (fk_of fe_int) (fun _ _ => rfl))) (fk_of (fe_ix o_ix (fk_of (fe_ix o_ix (fk_of (fe_var 0 (pv 0))) (fk_of (fe_un o_neg (fk_of fe_int))) (fun _ _ => rfl))) (fk_of fe_int) (fun _ _ => rfl))) (by rfl))))) (fss_one (fs_set (ps_set (i := 1) sc_alike_behind.nd rfl (by first | exact Or.inl rfl | exact Or.inr rfl) (fe_op (o_add hM) (fk_of (fe_var 1 (pv 1))) (fk_of fe_int))))))
      (fss_one (fs_ret (fe_var 1 (pv 1))))))
abbrev s_run_behind : Stmt := topS 19
abbrev N_run_behind : List Str := ["pile", "many"]
theorem sc_run_behind : FnScope N_run_behind ["pile"] (defScope s_run_behind) := ⟨rfl, rfl, rfl, by decide +kernel, rfl, by decide +kernel, by decide +kernel⟩
def B_run_behind : SF := (cSeq (cFor (cRg3 (cCall lenD (cCons (cV 0) cNil)) (c2 subD (cC (.int 3)) (cC (.int 1))) (c1 negD (cC (.int 1)))) (gV 1) (cIfS (cT1 asB (cCall F_is_run (cArgs 1 (cCons (cSl (cV 0) (cPt (c1 negD (cV 1))) cNo) cNil)))) (cRet (cV 1)) cNext))
  (cRet (cC (.int 0))))
@[irreducible] def F_run_behind : List D → Option D := runF 2 (B_run_behind)
theorem F_run_behind_def : F_run_behind = runF 2 (B_run_behind) := by unfold F_run_behind; rfl
theorem ok_run_behind {fi : Addr} {fdi : FuncData} (hM : MemOk (memV P w vf C S)) (hW : MemW (memV P w vf C S)) (hB : Bt mg) (cl_V : L2.Cls K C) (na_V : L2.NoAttr K C "known") (mk_V : L2.Mk K C fi) (F_init : FnOk P w K mg base CX0 1 fi fdi ["self"] (spInit P w C)) (b_init : L2.Binds K fdi ["self"] []) (m_V : mg "Values" = some (.ref C)) (g_LEAST_RUN : ∃ t, mg "LEAST_RUN" = some (.int 3 t)) (C_is_run : Cal P w K mg base (memV P w vf C S) "is_run" 3 1 F_is_run) {f : Addr} {fd : FuncData} (Fn : Fun K "run_behind" "run_behind" s_run_behind f fd) : FnOk P w K mg base CX0 4 f fd ["pile"] (spF K (memV P w vf C S) 1 (F_run_behind)) :=
  F_run_behind_def ▸ fun_ok Fn sc_run_behind fun cdv A outer s H E hr => (fss_cons (fs_for PassesOwn.never rfl (fi_range3 (by rfl) hB.range (fe_callB c_len (by rfl) hB.len (by rfl) (fak_cons (fk_of (fe_var 0 (pv 0))) fak_nil)) (fe_op o_sub (fk_of (fe_gint (by rfl) g_LEAST_RUN)) (fk_of fe_int)) (fe_un o_neg (fk_of fe_int))) (fg_name (pg_name (i := 1) sc_run_behind.nd rfl (by first | exact Or.inl rfl | exact Or.inr rfl))) (fss_one (fs_if (ft_val (fe_cal C_is_run hr (by decide) (by rfl) (fa_cons (fe_sl hM (fk_of (fe_var 0 (pv 0))) (fo_some (fe_un o_neg (fk_of (fe_var 1 (pv 1))))) fo_none) fa_nil))) (fss_one (fs_ret (fe_var 1 (pv 1)))) fss_nil)))
      (fss_one (fs_ret fe_int)))
abbrev s_gain : Stmt := topS 20
abbrev N_gain : List Str := ["pile", "found"]
theorem sc_gain : FnScope N_gain ["pile"] (defScope s_gain) := ⟨rfl, rfl, rfl, by decide +kernel, rfl, by decide +kernel, by decide +kernel⟩
def B_gain : SF := (cSeq (cAsg (c2 mulD (cC (.int 2)) (cCall intD (cCons (c2 inD (cCall F_sum_of (cArgs 1 (cCons (cV 0) cNil))) (cTup (cCons (cC (.int 15)) (cCons (cC (.int 31)) cNil)))) cNil))) (gV 1))
  (cRet (c2 addD (c2 addD (cV 1) (c1 (kdD [(1, 0), (2, 2), (3, 6), (4, 12)]) (cCall F_alike_behind (cArgs 1 (cCons (cV 0) cNil))))) (cCall F_run_behind (cArgs 1 (cCons (cV 0) cNil))))))
@[irreducible] def F_gain : List D → Option D := runF 2 (B_gain)
theorem F_gain_def : F_gain = runF 2 (B_gain) := by unfold F_gain; rfl
theorem ok_gain {fi : Addr} {fdi : FuncData} (hM : MemOk (memV P w vf C S)) (hW : MemW (memV P w vf C S)) (hB : Bt mg) (cl_V : L2.Cls K C) (na_V : L2.NoAttr K C "known") (mk_V : L2.Mk K C fi) (F_init : FnOk P w K mg base CX0 1 fi fdi ["self"] (spInit P w C)) (b_init : L2.Binds K fdi ["self"] []) (m_V : mg "Values" = some (.ref C)) (g_MOST : ∃ t, mg "MOST" = some (.int 31 t)) (g_FIFTEEN : ∃ t, mg "FIFTEEN" = some (.int 15 t)) (g_ALIKE : ∃ a, mg "ALIKE" = some (.ref a) ∧ KTab K a [(1, 0), (2, 2), (3, 6), (4, 12)]) (C_sum_of : Cal P w K mg base (memV P w vf C S) "sum_of" 4 1 F_sum_of) (C_alike_behind : Cal P w K mg base (memV P w vf C S) "alike_behind" 3 1 F_alike_behind) (C_run_behind : Cal P w K mg base (memV P w vf C S) "run_behind" 4 1 F_run_behind) {f : Addr} {fd : FuncData} (Fn : Fun K "gain" "gain" s_gain f fd) : FnOk P w K mg base CX0 5 f fd ["pile"] (spF K (memV P w vf C S) 1 (F_gain)) :=
  F_gain_def ▸ fun_ok Fn sc_gain fun cdv A outer s H E hr => (fss_cons (fs_set (ps_set (i := 1) sc_gain.nd rfl (by first | exact Or.inl rfl | exact Or.inr rfl) (fe_op (o_mul hM) (fk_of fe_int) (fk_of (fe_callTy c_int (by rfl) hB.int (by rfl) (fak_cons (fk_of (fe_cmp (o_in (u65 hr)) (fk_of (fe_cal C_sum_of hr (by decide) (by rfl) (fa_cons (fe_var 0 (pv 0)) fa_nil))) (fk_of (fe_tup hM (fa_cons (fe_gint (by rfl) g_FIFTEEN) (fa_cons (fe_gint (by rfl) g_MOST) fa_nil)))) (by rfl))) fak_nil))))))
      (fss_one (fs_ret (fe_op (o_add hM) (fk_of (fe_op (o_add hM) (fk_of (fe_var 1 (pv 1))) (fk_of (fe_kdict (by rfl) g_ALIKE (fe_cal C_alike_behind hr (by decide) (by rfl) (fa_cons (fe_var 0 (pv 0)) fa_nil)))))) (fk_of (fe_cal C_run_behind hr (by decide) (by rfl) (fa_cons (fe_var 0 (pv 0)) fa_nil)))))))
abbrev s_begin : Stmt := topS 21
abbrev N_begin : List Str := ["one", "other", "turn", "hands"]
theorem sc_begin : FnScope N_begin ["one", "other", "turn"] (defScope s_begin) := ⟨rfl, rfl, rfl, by decide +kernel, rfl, by decide +kernel, by decide +kernel⟩
def B_begin : SF := (cSeq (cAsg (cTup (cCons (cCall tupleD (cCons (cCall sortedD (cCons (cV 0) cNil)) cNil)) (cCons (cCall tupleD (cCons (cCall sortedD (cCons (cV 1) cNil)) cNil)) cNil))) (gV 3))
  (cSeq (cIfS (cT1 asB (c2 eqD (cCall lenD (cCons (c2 ixD (cV 3) (cV 2)) cNil)) (cC (.int 0)))) (cAsg (c2 subD (cC (.int 1)) (cV 2)) (gV 2)) cNext)
  (cSeq (cIfS (cT1 asB (c2 eqD (cCall lenD (cCons (c2 ixD (cV 3) (cV 2)) cNil)) (cC (.int 0)))) (cRet (cTup (cCons (cV 3) (cCons (cTup cNil) (cCons (cC .none) (cCons (cC .none) cNil)))))) cNext)
  (cRet (cTup (cCons (cV 3) (cCons (cTup cNil) (cCons (cV 2) (cCons (cC .none) cNil)))))))))
@[irreducible] def F_begin : List D → Option D := runF 4 (B_begin)
theorem F_begin_def : F_begin = runF 4 (B_begin) := by unfold F_begin; rfl
theorem ok_begin {fi : Addr} {fdi : FuncData} (hM : MemOk (memV P w vf C S)) (hW : MemW (memV P w vf C S)) (hB : Bt mg) (cl_V : L2.Cls K C) (na_V : L2.NoAttr K C "known") (mk_V : L2.Mk K C fi) (F_init : FnOk P w K mg base CX0 1 fi fdi ["self"] (spInit P w C)) (b_init : L2.Binds K fdi ["self"] []) (m_V : mg "Values" = some (.ref C)) {f : Addr} {fd : FuncData} (Fn : Fun K "begin" "begin" s_begin f fd) : FnOk P w K mg base CX0 3 f fd ["one", "other", "turn"] (spF K (memV P w vf C S) 3 (F_begin)) :=
  F_begin_def ▸ fun_ok Fn sc_begin fun cdv A outer s H E hr => (fss_cons (fs_set (ps_set (i := 3) sc_begin.nd rfl (by first | exact Or.inl rfl | exact Or.inr rfl) (fe_tup hM (fa_cons (fe_callTy (c_tuple hM) (by rfl) hB.tuple (by rfl) (fak_cons (fk_of (fe_callB (c_sorted hM rfl (u65 hr)) (by rfl) hB.sorted (by rfl) (fak_cons (fk_of (fe_var 0 (pv 0))) fak_nil))) fak_nil)) (fa_cons (fe_callTy (c_tuple hM) (by rfl) hB.tuple (by rfl) (fak_cons (fk_of (fe_callB (c_sorted hM rfl (u65 hr)) (by rfl) hB.sorted (by rfl) (fak_cons (fk_of (fe_var 1 (pv 1))) fak_nil))) fak_nil)) fa_nil)))))
      (fss_cons (fs_if (ft_cmp (o_eq (u64 hr)) (fk_of (fe_callB c_len (by rfl) hB.len (by rfl) (fak_cons (fk_of (fe_ix o_ix (fk_of (fe_var 3 (pv 3))) (fk_of (fe_var 2 (pv 2))) (fun _ _ => rfl))) fak_nil))) (fk_of fe_int) (by rfl)) (fss_one (fs_set (ps_set (i := 2) sc_begin.nd rfl (by first | exact Or.inl rfl | exact Or.inr rfl) (fe_op o_sub (fk_of fe_int) (fk_of (fe_var 2 (pv 2))))))) fss_nil)
      (fss_cons (fs_if (ft_cmp (o_eq (u64 hr)) (fk_of (fe_callB c_len (by rfl) hB.len (by rfl) (fak_cons (fk_of (fe_ix o_ix (fk_of (fe_var 3 (pv 3))) (fk_of (fe_var 2 (pv 2))) (fun _ _ => rfl))) fak_nil))) (fk_of fe_int) (by rfl)) (fss_one (fs_ret (fe_tup hM (fa_cons (fe_var 3 (pv 3)) (fa_cons (fe_tup hM fa_nil) (fa_cons fe_non (fa_cons fe_non fa_nil))))))) fss_nil)
      (fss_one (fs_ret (fe_tup hM (fa_cons (fe_var 3 (pv 3)) (fa_cons (fe_tup hM fa_nil) (fa_cons (fe_var 2 (pv 2)) (fa_cons fe_non fa_nil))))))))))
abbrev s_can_be : Stmt := topS 22
abbrev N_can_be : List Str := ["hand", "pile", "card"]
theorem sc_can_be : FnScope N_can_be ["hand", "pile"] (defScope s_can_be) := ⟨rfl, rfl, rfl, by decide +kernel, rfl, by decide +kernel, by decide +kernel⟩
def B_can_be : SF := (cRet (cCall tupleD (cCons (cL (cLc (cItT (cV 0)) [2] (gV 2) (cT1 asB (c2 leD (c2 addD (cCall F_sum_of (cArgs 1 (cCons (cV 1) cNil))) (cCall F_worth (cArgs 1 (cCons (cV 2) cNil)))) (cC (.int 31)))) (cV 2))) cNil)))
@[irreducible] def F_can_be : List D → Option D := runF 3 (B_can_be)
theorem F_can_be_def : F_can_be = runF 3 (B_can_be) := by unfold F_can_be; rfl
theorem ok_can_be {fi : Addr} {fdi : FuncData} (hM : MemOk (memV P w vf C S)) (hW : MemW (memV P w vf C S)) (hB : Bt mg) (cl_V : L2.Cls K C) (na_V : L2.NoAttr K C "known") (mk_V : L2.Mk K C fi) (F_init : FnOk P w K mg base CX0 1 fi fdi ["self"] (spInit P w C)) (b_init : L2.Binds K fdi ["self"] []) (m_V : mg "Values" = some (.ref C)) (g_MOST : ∃ t, mg "MOST" = some (.int 31 t)) (C_sum_of : Cal P w K mg base (memV P w vf C S) "sum_of" 4 1 F_sum_of) (C_worth : Cal P w K mg base (memV P w vf C S) "worth" 3 1 F_worth) {f : Addr} {fd : FuncData} (Fn : Fun K "can_be" "can_be" s_can_be f fd) : FnOk P w K mg base CX0 5 f fd ["hand", "pile"] (spF K (memV P w vf C S) 2 (F_can_be)) :=
  F_can_be_def ▸ fun_ok Fn sc_can_be fun cdv A outer s H E hr => (fss_one (fs_ret (fe_callTy (c_tuple hM) (by rfl) hB.tuple (by rfl) (fak_cons (fk_of (fe_new (fn_lc hM hW rfl sc_can_be.nd (FI.zero (fi_tup (fe_var 0 (pv 0)))) (blkOk_by (own := [("card", 2)]) (N := N_can_be) (sc := defScope s_can_be) (by decide +kernel)) (fun _ _ _ _ _ => (fg_name (pg_name (i := 2) sc_can_be.nd rfl (by first | exact Or.inl rfl | exact Or.inr rfl)))) (fun _ _ _ _ _ => (fts_one (ft_cmp o_le (fk_of (fe_op (o_add hM) (fk_of (fe_cal C_sum_of hr (by decide) (by rfl) (fa_cons (fe_var 1 (pv 1)) fa_nil))) (fk_of (fe_cal C_worth hr (by decide) (by rfl) (fa_cons (fe_var 2 (pv 2)) fa_nil))))) (fk_of (fe_gint (by rfl) g_MOST)) (by rfl)))) (fun _ _ _ _ _ => (fe_var 2 (pv 2)))))) fak_nil))))
abbrev s_can : Stmt := topS 23
abbrev N_can : List Str := ["play", "hands", "pile", "turn", "last"]
theorem sc_can : FnScope N_can ["play"] (defScope s_can) := ⟨rfl, rfl, rfl, by decide +kernel, rfl, by decide +kernel, by decide +kernel⟩
def B_can : SF := (cSeq (cAsg (cV 0) (gT 4 (gC (gV 1) (gC (gV 2) (gC (gV 3) (gC (gV 4) gN))))))
  (cSeq (cIfS (cT1 asB (c2 isD (cV 3) (cC .none))) (cRet (cTup cNil)) cNext)
  (cRet (cCall F_can_be (cArgs 2 (cCons (c2 ixD (cV 1) (cV 3)) (cCons (cV 2) cNil)))))))
@[irreducible] def F_can : List D → Option D := runF 5 (B_can)
theorem F_can_def : F_can = runF 5 (B_can) := by unfold F_can; rfl
theorem ok_can {fi : Addr} {fdi : FuncData} (hM : MemOk (memV P w vf C S)) (hW : MemW (memV P w vf C S)) (hB : Bt mg) (cl_V : L2.Cls K C) (na_V : L2.NoAttr K C "known") (mk_V : L2.Mk K C fi) (F_init : FnOk P w K mg base CX0 1 fi fdi ["self"] (spInit P w C)) (b_init : L2.Binds K fdi ["self"] []) (m_V : mg "Values" = some (.ref C)) (C_can_be : Cal P w K mg base (memV P w vf C S) "can_be" 5 2 F_can_be) {f : Addr} {fd : FuncData} (Fn : Fun K "can" "can" s_can f fd) : FnOk P w K mg base CX0 6 f fd ["play"] (spF K (memV P w vf C S) 1 (F_can)) :=
  F_can_def ▸ fun_ok Fn sc_can fun cdv A outer s H E hr => (fss_cons (fs_asg (fe_var 0 (pv 0)) (fg_tup (n := 4) rfl (fgs_cons (fg_name (pg_name (i := 1) sc_can.nd rfl (by first | exact Or.inl rfl | exact Or.inr rfl))) (fgs_cons (fg_name (pg_name (i := 2) sc_can.nd rfl (by first | exact Or.inl rfl | exact Or.inr rfl))) (fgs_cons (fg_name (pg_name (i := 3) sc_can.nd rfl (by first | exact Or.inl rfl | exact Or.inr rfl))) (fgs_cons (fg_name (pg_name (i := 4) sc_can.nd rfl (by first | exact Or.inl rfl | exact Or.inr rfl))) fgs_nil))))))
      (fss_cons (fs_if (ft_cmp o_is (fk_of (fe_var 3 (pv 3))) (fk_of fe_non) (by rfl)) (fss_one (fs_ret (fe_tup hM fa_nil))) fss_nil)
      (fss_one (fs_ret (fe_cal C_can_be hr (by decide) (by rfl) (fa_cons (fe_ix o_ix (fk_of (fe_var 1 (pv 1))) (fk_of (fe_var 3 (pv 3))) (fun _ _ => rfl)) (fa_cons (fe_var 2 (pv 2)) fa_nil)))))))
abbrev s_without : Stmt := topS 24
abbrev N_without : List Str := ["hands", "who", "card", "rest", "one"]
theorem sc_without : FnScope N_without ["hands", "who", "card"] (defScope s_without) := ⟨rfl, rfl, rfl, by decide +kernel, rfl, by decide +kernel, by decide +kernel⟩
def B_without : SF := (cSeq (cAsg (cCall tupleD (cCons (cL (cLc (cItT (c2 ixD (cV 0) (cV 1))) [4] (gV 4) (cT1 asB (c2 neD (cV 4) (cV 2))) (cV 4))) cNil)) (gV 3))
  (cSeq (cIfS (cT1 asB (c2 eqD (cV 1) (cC (.int 0)))) (cRet (cTup (cCons (cV 3) (cCons (c2 ixD (cV 0) (cC (.int 1))) cNil)))) cNext)
  (cRet (cTup (cCons (c2 ixD (cV 0) (cC (.int 0))) (cCons (cV 3) cNil))))))
@[irreducible] def F_without : List D → Option D := runF 5 (B_without)
theorem F_without_def : F_without = runF 5 (B_without) := by unfold F_without; rfl
theorem ok_without {fi : Addr} {fdi : FuncData} (hM : MemOk (memV P w vf C S)) (hW : MemW (memV P w vf C S)) (hB : Bt mg) (cl_V : L2.Cls K C) (na_V : L2.NoAttr K C "known") (mk_V : L2.Mk K C fi) (F_init : FnOk P w K mg base CX0 1 fi fdi ["self"] (spInit P w C)) (b_init : L2.Binds K fdi ["self"] []) (m_V : mg "Values" = some (.ref C)) {f : Addr} {fd : FuncData} (Fn : Fun K "without" "without" s_without f fd) : FnOk P w K mg base CX0 3 f fd ["hands", "who", "card"] (spF K (memV P w vf C S) 3 (F_without)) :=
  F_without_def ▸ fun_ok Fn sc_without fun cdv A outer s H E hr => (fss_cons (fs_set (ps_set (i := 3) sc_without.nd rfl (by first | exact Or.inl rfl | exact Or.inr rfl) (fe_callTy (c_tuple hM) (by rfl) hB.tuple (by rfl) (fak_cons (fk_of (fe_new (fn_lc hM hW rfl sc_without.nd (FI.zero (fi_tup (fe_ix o_ix (fk_of (fe_var 0 (pv 0))) (fk_of (fe_var 1 (pv 1))) (fun _ _ => rfl)))) (blkOk_by (own := [("one", 4)]) (N := N_without) (sc := defScope s_without) (by decide +kernel)) (fun _ _ _ _ _ => (fg_name (pg_name (i := 4) sc_without.nd rfl (by first | exact Or.inl rfl | exact Or.inr rfl)))) (fun _ _ _ _ _ => (fts_one (ft_cmp (o_ne (u64 hr)) (fk_of (fe_var 4 (pv 4))) (fk_of (fe_var 2 (pv 2))) (by rfl)))) (fun _ _ _ _ _ => (fe_var 4 (pv 4)))))) fak_nil))))
      (fss_cons (fs_if (ft_cmp (o_eq (u64 hr)) (fk_of (fe_var 1 (pv 1))) (fk_of fe_int) (by rfl)) (fss_one (fs_ret (fe_tup hM (fa_cons (fe_var 3 (pv 3)) (fa_cons (fe_ix o_ix (fk_of (fe_var 0 (pv 0))) (fk_of fe_int) (fun _ _ => rfl)) fa_nil))))) fss_nil)
      (fss_one (fs_ret (fe_tup hM (fa_cons (fe_ix o_ix (fk_of (fe_var 0 (pv 0))) (fk_of fe_int) (fun _ _ => rfl)) (fa_cons (fe_var 3 (pv 3)) fa_nil)))))))
abbrev s_lay : Stmt := topS 25
abbrev N_lay : List Str := ["play", "card", "hands", "pile", "who", "last", "had", "turn"]
theorem sc_lay : FnScope N_lay ["play", "card"] (defScope s_lay) := ⟨rfl, rfl, rfl, by decide +kernel, rfl, by decide +kernel, by decide +kernel⟩
def B_lay : SF := (cSeq (cIfS (cT1 asB (c2 ninD (cV 1) (cCall F_can (cArgs 1 (cCons (cV 0) cNil))))) cNever cNext)
  (cSeq (cAsg (cV 0) (gT 4 (gC (gV 2) (gC (gV 3) (gC (gV 4) (gC (gV 5) gN))))))
  (cSeq (cAsg (cCall F_without (cArgs 3 (cCons (cV 2) (cCons (cV 4) (cCons (cV 1) cNil))))) (gV 2))
  (cSeq (cAsg (c2 addD (cV 3) (cTup (cCons (cV 1) cNil))) (gV 3))
  (cSeq (cAsg (cTup cNil) (gV 6))
  (cSeq (cIfS (cT1 asB (c2 gtD (cCall F_gain (cArgs 1 (cCons (cV 3) cNil))) (cC (.int 0)))) (cAsg (cTup (cCons (cTup (cCons (cV 4) (cCons (cCall F_gain (cArgs 1 (cCons (cV 3) cNil))) cNil))) cNil)) (gV 6)) cNext)
  (cSeq (cFor (cItT (cTup (cCons (c2 subD (cC (.int 1)) (cV 4)) (cCons (cV 4) cNil)))) (gV 7) (cIfS (cT1 asB (c2 gtD (cCall lenD (cCons (cCall F_can_be (cArgs 2 (cCons (c2 ixD (cV 2) (cV 7)) (cCons (cV 3) cNil)))) cNil)) (cC (.int 0)))) (cRet (cTup (cCons (cTup (cCons (cV 2) (cCons (cV 3) (cCons (cV 7) (cCons (cV 4) cNil))))) (cCons (cV 6) cNil)))) cNext))
  (cSeq (cIfS (cT1 asB (c2 neD (cCall F_sum_of (cArgs 1 (cCons (cV 3) cNil))) (cC (.int 31)))) (cAsg (c2 addD (cV 6) (cTup (cCons (cTup (cCons (cV 4) (cCons (cC (.int 1)) cNil))) cNil))) (gV 6)) cNext)
  (cRet (cTup (cCons (cCall F_begin (cArgs 3 (cCons (c2 ixD (cV 2) (cC (.int 0))) (cCons (c2 ixD (cV 2) (cC (.int 1))) (cCons (c2 subD (cC (.int 1)) (cV 4)) cNil))))) (cCons (cV 6) cNil))))))))))))
@[irreducible] def F_lay : List D → Option D := runF 8 (B_lay)
theorem F_lay_def : F_lay = runF 8 (B_lay) := by unfold F_lay; rfl
theorem ok_lay {fi : Addr} {fdi : FuncData} (hM : MemOk (memV P w vf C S)) (hW : MemW (memV P w vf C S)) (hB : Bt mg) (cl_V : L2.Cls K C) (na_V : L2.NoAttr K C "known") (mk_V : L2.Mk K C fi) (F_init : FnOk P w K mg base CX0 1 fi fdi ["self"] (spInit P w C)) (b_init : L2.Binds K fdi ["self"] []) (m_V : mg "Values" = some (.ref C)) (g_MOST : ∃ t, mg "MOST" = some (.int 31 t)) (C_can : Cal P w K mg base (memV P w vf C S) "can" 6 1 F_can) (C_without : Cal P w K mg base (memV P w vf C S) "without" 3 3 F_without) (C_gain : Cal P w K mg base (memV P w vf C S) "gain" 5 1 F_gain) (C_can_be : Cal P w K mg base (memV P w vf C S) "can_be" 5 2 F_can_be) (C_sum_of : Cal P w K mg base (memV P w vf C S) "sum_of" 4 1 F_sum_of) (C_begin : Cal P w K mg base (memV P w vf C S) "begin" 3 3 F_begin) {f : Addr} {fd : FuncData} (Fn : Fun K "lay" "lay" s_lay f fd) : FnOk P w K mg base CX0 7 f fd ["play", "card"] (spF K (memV P w vf C S) 2 (F_lay)) :=
  F_lay_def ▸ fun_ok Fn sc_lay fun cdv A outer s H E hr => (fss_cons (fs_if (ft_cmp (o_nin (u65 hr)) (fk_of (fe_var 1 (pv 1))) (fk_of (fe_cal C_can hr (by decide) (by rfl) (fa_cons (fe_var 0 (pv 0)) fa_nil))) (by rfl)) (fss_one fs_never) fss_nil)
      (fss_cons (fs_asg (fe_var 0 (pv 0)) (fg_tup (n := 4) rfl (fgs_cons (fg_name (pg_name (i := 2) sc_lay.nd rfl (by first | exact Or.inl rfl | exact Or.inr rfl))) (fgs_cons (fg_name (pg_name (i := 3) sc_lay.nd rfl (by first | exact Or.inl rfl | exact Or.inr rfl))) (fgs_cons (fg_name (pg_name (i := 4) sc_lay.nd rfl (by first | exact Or.inl rfl | exact Or.inr rfl))) (fgs_cons (fg_name (pg_name (i := 5) sc_lay.nd rfl (by first | exact Or.inl rfl | exact Or.inr rfl))) fgs_nil))))))
      (fss_cons (fs_set (ps_set (i := 2) sc_lay.nd rfl (by first | exact Or.inl rfl | exact Or.inr rfl) (fe_cal C_without hr (by decide) (by rfl) (fa_cons (fe_var 2 (pv 2)) (fa_cons (fe_var 4 (pv 4)) (fa_cons (fe_var 1 (pv 1)) fa_nil))))))
      (fss_cons (fs_set (ps_set (i := 3) sc_lay.nd rfl (by first | exact Or.inl rfl | exact Or.inr rfl) (fe_op (o_add hM) (fk_of (fe_var 3 (pv 3))) (fk_of (fe_tup hM (fa_cons (fe_var 1 (pv 1)) fa_nil))))))
      (fss_cons (fs_set (ps_set (i := 6) sc_lay.nd rfl (by first | exact Or.inl rfl | exact Or.inr rfl) (fe_tup hM fa_nil)))
      (fss_cons (fs_if (ft_cmp o_gt (fk_of (fe_cal C_gain hr (by decide) (by rfl) (fa_cons (fe_var 3 (pv 3)) fa_nil))) (fk_of fe_int) (by rfl)) (fss_one (fs_set (ps_set (i := 6) sc_lay.nd rfl (by first | exact Or.inl rfl | exact Or.inr rfl) (fe_tup hM (fa_cons (fe_tup hM (fa_cons (fe_var 4 (pv 4)) (fa_cons (fe_cal C_gain hr (by decide) (by rfl) (fa_cons (fe_var 3 (pv 3)) fa_nil)) fa_nil))) fa_nil))))) fss_nil)
      (fss_cons (fs_for PassesOwn.never rfl (fi_tup (fe_tup hM (fa_cons (fe_op o_sub (fk_of fe_int) (fk_of (fe_var 4 (pv 4)))) (fa_cons (fe_var 4 (pv 4)) fa_nil)))) (fg_name (pg_name (i := 7) sc_lay.nd rfl (by first | exact Or.inl rfl | exact Or.inr rfl))) (fss_one (fs_if (ft_cmp o_gt (fk_of (fe_callB c_len (by rfl) hB.len (by rfl) (fak_cons (fk_of (fe_cal C_can_be hr (by decide) (by rfl) (fa_cons (fe_ix o_ix (fk_of (fe_var 2 (pv 2))) (fk_of (fe_var 7 (pv 7))) (fun _ _ => rfl)) (fa_cons (fe_var 3 (pv 3)) fa_nil)))) fak_nil))) (fk_of fe_int) (by rfl)) (fss_one (fs_ret (fe_tup hM (fa_cons (fe_tup hM (fa_cons (fe_var 2 (pv 2)) (fa_cons (fe_var 3 (pv 3)) (fa_cons (fe_var 7 (pv 7)) (fa_cons (fe_var 4 (pv 4)) fa_nil))))) (fa_cons (fe_var 6 (pv 6)) fa_nil))))) fss_nil)))
      (fss_cons (fs_if (ft_cmp (o_ne (u64 hr)) (fk_of (fe_cal C_sum_of hr (by decide) (by rfl) (fa_cons (fe_var 3 (pv 3)) fa_nil))) (fk_of (fe_gint (by rfl) g_MOST)) (by rfl)) (fss_one (fs_set (ps_set (i := 6) sc_lay.nd rfl (by first | exact Or.inl rfl | exact Or.inr rfl) (fe_op (o_add hM) (fk_of (fe_var 6 (pv 6))) (fk_of (fe_tup hM (fa_cons (fe_tup hM (fa_cons (fe_var 4 (pv 4)) (fa_cons fe_int fa_nil))) fa_nil))))))) fss_nil)
      (fss_one (fs_ret (fe_tup hM (fa_cons (fe_cal C_begin hr (by decide) (by rfl) (fa_cons (fe_ix o_ix (fk_of (fe_var 2 (pv 2))) (fk_of fe_int) (fun _ _ => rfl)) (fa_cons (fe_ix o_ix (fk_of (fe_var 2 (pv 2))) (fk_of fe_int) (fun _ _ => rfl)) (fa_cons (fe_op o_sub (fk_of fe_int) (fk_of (fe_var 4 (pv 4)))) fa_nil)))) (fa_cons (fe_var 6 (pv 6)) fa_nil)))))))))))))
abbrev s_lead : Stmt := topS 27
abbrev N_lead : List Str := ["had", "who", "its", "points"]
theorem sc_lead : FnScope N_lead ["had", "who"] (defScope s_lead) := ⟨rfl, rfl, rfl, by decide +kernel, rfl, by decide +kernel, by decide +kernel⟩
def B_lead : SF := (cRet (cCall sumD (cCons (cL (cLc (cItT (cV 0)) [2, 3] (gT 2 (gC (gV 2) (gC (gV 3) gN))) cYes (c2 mulD (cV 3) (c2 subD (cC (.int 1)) (c2 mulD (cC (.int 2)) (cCall intD (cCons (c2 neD (cV 2) (cV 1)) cNil))))))) cNil)))
@[irreducible] def F_lead : List D → Option D := runF 4 (B_lead)
theorem F_lead_def : F_lead = runF 4 (B_lead) := by unfold F_lead; rfl
theorem ok_lead {fi : Addr} {fdi : FuncData} (hM : MemOk (memV P w vf C S)) (hW : MemW (memV P w vf C S)) (hB : Bt mg) (cl_V : L2.Cls K C) (na_V : L2.NoAttr K C "known") (mk_V : L2.Mk K C fi) (F_init : FnOk P w K mg base CX0 1 fi fdi ["self"] (spInit P w C)) (b_init : L2.Binds K fdi ["self"] []) (m_V : mg "Values" = some (.ref C)) {f : Addr} {fd : FuncData} (Fn : Fun K "lead" "lead" s_lead f fd) : FnOk P w K mg base CX0 3 f fd ["had", "who"] (spF K (memV P w vf C S) 2 (F_lead)) :=
  F_lead_def ▸ fun_ok Fn sc_lead fun cdv A outer s H E hr => (fss_one (fs_ret (fe_callB (c_sum rfl) (by rfl) hB.sum (by rfl) (fak_cons (fk_of (fe_new (fn_lc hM hW rfl sc_lead.nd (FI.zero (fi_tup (fe_var 0 (pv 0)))) (blkOk_by (own := [("its", 2), ("points", 3)]) (N := N_lead) (sc := defScope s_lead) (by decide +kernel)) (fun _ _ _ _ _ => (fg_tup (n := 2) rfl (fgs_cons (fg_name (pg_name (i := 2) sc_lead.nd rfl (by first | exact Or.inl rfl | exact Or.inr rfl))) (fgs_cons (fg_name (pg_name (i := 3) sc_lead.nd rfl (by first | exact Or.inl rfl | exact Or.inr rfl))) fgs_nil)))) (fun _ _ _ _ _ => fts_nil) (fun _ _ _ _ _ => (fe_op (o_mul hM) (fk_of (fe_var 3 (pv 3))) (fk_of (fe_op o_sub (fk_of fe_int) (fk_of (fe_op (o_mul hM) (fk_of fe_int) (fk_of (fe_callTy c_int (by rfl) hB.int (by rfl) (fak_cons (fk_of (fe_cmp (o_ne (u64 hr)) (fk_of (fe_var 2 (pv 2))) (fk_of (fe_var 1 (pv 1))) (by rfl))) fak_nil)))))))))))) fak_nil))))
abbrev s_Values_of_play : Stmt := clsS 28 1
abbrev N_Values_of_play : List Str := ["self", "play", "some", "card"]
theorem sc_Values_of_play : FnScope N_Values_of_play ["self", "play"] (defScope s_Values_of_play) := ⟨rfl, rfl, rfl, by decide +kernel, rfl, by decide +kernel, by decide +kernel⟩
noncomputable def B_Values_of_play (vf : NestedKey → Int) (S : List NestedKey) (g0 g1 : List D → Option D) : SF := (cSeq (cIfS (cT1 asB (c2 isD (c2 ixD (cV 1) (cC (.int 2))) (cC .none))) (cRet (cC (.int 0))) cNext)
  (cMemo vf S 1 (c1 knownD (cV 0)) (mbCons (cAsg (cL (cLc (cItT (cCall F_can (cArgs 1 (cCons (cV 1) cNil)))) [3] (gV 3) cYes (cMeth 2 g1 (cV 0) (cCons (cV 1) (cCons (cV 3) cNil))))) (gV 2))
  (mbLast (c2 ixD (cL (chk 1000 (cCons (cCall maxD (cCons (cV 2) cNil)) (cCons (cCall minD (cCons (cV 2) cNil)) cNil)))) (c2 ixD (cV 1) (cC (.int 2))))))))
theorem okB_Values_of_play {fi : Addr} {fdi : FuncData} {ℓ : Nat} (hl : 9 ≤ ℓ) {g0 g1 : List D → Option D} (hM : MemOk (memV P w vf C S)) (hW : MemW (memV P w vf C S)) (hB : Bt mg) (cl_V : L2.Cls K C) (na_V : L2.NoAttr K C "known") (mk_V : L2.Mk K C fi) (F_init : FnOk P w K mg base CX0 1 fi fdi ["self"] (spInit P w C)) (b_init : L2.Binds K fdi ["self"] []) (m_V : mg "Values" = some (.ref C)) (C_can : Cal P w K mg base (memV P w vf C S) "can" 6 1 F_can) (C_Values_of_card : CalM P w K mg base (memV P w vf C S) C "of_card" ℓ 2 g1) {f : Addr} {fd : FuncData} (Fn : Fun K "of_play" "Values.of_play" s_Values_of_play f fd) : FnOk P w K mg base CX0 (ℓ + 1) f fd ["self", "play"] (spF K (memV P w vf C S) 2 (runF 4 (B_Values_of_play vf S g0 g1))) :=
  fun_ok Fn sc_Values_of_play fun cdv A outer s H E hr => (fss_cons (fs_if (ft_cmp o_is (fk_of (fe_ix o_ix (fk_of (fe_var 1 (pv 1))) (fk_of fe_int) (fun _ _ => rfl))) (fk_of fe_non) (by rfl)) (fss_one (fs_ret fe_int)) fss_nil)
      (fss_memo (u65 hr) mref_fld (pv 1) (pe_known cl_V na_V (pv 0)) (fmb_cons (fs_set (new_stmt (ps_lc (i := 2) hM hW rfl sc_Values_of_play.nd rfl rfl (sw_true rfl rfl rfl (by decide +kernel)) (FI.zero (fi_tup (fe_cal C_can hr (Nat.le_trans (by decide) hl) (by rfl) (fa_cons (fe_var 1 (pv 1)) fa_nil)))) (blkOk_by (own := [("card", 3)]) (N := N_Values_of_play) (sc := defScope s_Values_of_play) (by decide +kernel)) (fun _ _ _ _ _ => (fg_name (pg_name (i := 3) sc_Values_of_play.nd rfl (by first | exact Or.inl rfl | exact Or.inr rfl)))) (fun _ _ _ _ _ => fts_nil) (fun _ _ _ _ _ => (fe_meth C_Values_of_card cl_V hr (Nat.le_refl _) rfl (fe_var 0 (pv 0)) (fa_cons (fe_var 1 (pv 1)) (fa_cons (fe_var 3 (pv 3)) fa_nil)))))))
      (fmb_last mref_fld (ps_asg (fe_ix o_ix (fk_of (fe_new (fn_lst hM (fa_cons (fe_callB (c_max rfl (u65 hr)) (by rfl) hB.max (by rfl) (fak_cons (fk_of (fe_var 2 (pv 2))) fak_nil)) (fa_cons (fe_callB (c_min rfl (u65 hr)) (by rfl) hB.min (by rfl) (fak_cons (fk_of (fe_var 2 (pv 2))) fak_nil)) fa_nil))))) (fk_of (fe_ix o_ix (fk_of (fe_var 1 (pv 1))) (fk_of fe_int) (fun _ _ => rfl))) (fun _ _ => rfl)) (pg_sub (pe_known cl_V na_V (pv 0)) (pv 1) (set_mem (u65 hr)))))) (pv 1) (pe_known cl_V na_V (pv 0)) (fun _ _ => rfl)))
abbrev s_Values_of_card : Stmt := clsS 28 2
abbrev N_Values_of_card : List Str := ["self", "play", "card", "new", "had"]
theorem sc_Values_of_card : FnScope N_Values_of_card ["self", "play", "card"] (defScope s_Values_of_card) := ⟨rfl, rfl, rfl, by decide +kernel, rfl, by decide +kernel, by decide +kernel⟩
noncomputable def B_Values_of_card (vf : NestedKey → Int) (S : List NestedKey) (g0 g1 : List D → Option D) : SF := (cSeq (cAsg (cCall F_lay (cArgs 2 (cCons (cV 1) (cCons (cV 2) cNil)))) (gT 2 (gC (gV 3) (gC (gV 4) gN))))
  (cRet (c2 addD (cCall F_lead (cArgs 2 (cCons (cV 4) (cCons (cC (.int 0)) cNil)))) (cMeth 1 g0 (cV 0) (cCons (cV 3) cNil)))))
theorem okB_Values_of_card {fi : Addr} {fdi : FuncData} {ℓ : Nat} (hl : 9 ≤ ℓ) {g0 g1 : List D → Option D} (hM : MemOk (memV P w vf C S)) (hW : MemW (memV P w vf C S)) (hB : Bt mg) (cl_V : L2.Cls K C) (na_V : L2.NoAttr K C "known") (mk_V : L2.Mk K C fi) (F_init : FnOk P w K mg base CX0 1 fi fdi ["self"] (spInit P w C)) (b_init : L2.Binds K fdi ["self"] []) (m_V : mg "Values" = some (.ref C)) (C_lay : Cal P w K mg base (memV P w vf C S) "lay" 7 2 F_lay) (C_lead : Cal P w K mg base (memV P w vf C S) "lead" 3 2 F_lead) (C_Values_of_play : CalM P w K mg base (memV P w vf C S) C "of_play" ℓ 1 g0) {f : Addr} {fd : FuncData} (Fn : Fun K "of_card" "Values.of_card" s_Values_of_card f fd) : FnOk P w K mg base CX0 (ℓ + 1) f fd ["self", "play", "card"] (spF K (memV P w vf C S) 3 (runF 5 (B_Values_of_card vf S g0 g1))) :=
  fun_ok Fn sc_Values_of_card fun cdv A outer s H E hr => (fss_cons (fs_asg (fe_cal C_lay hr (Nat.le_trans (by decide) hl) (by rfl) (fa_cons (fe_var 1 (pv 1)) (fa_cons (fe_var 2 (pv 2)) fa_nil))) (fg_tup (n := 2) rfl (fgs_cons (fg_name (pg_name (i := 3) sc_Values_of_card.nd rfl (by first | exact Or.inl rfl | exact Or.inr rfl))) (fgs_cons (fg_name (pg_name (i := 4) sc_Values_of_card.nd rfl (by first | exact Or.inl rfl | exact Or.inr rfl))) fgs_nil))))
      (fss_one (fs_ret (fe_op (o_add hM) (fk_of (fe_cal C_lead hr (Nat.le_trans (by decide) hl) (by rfl) (fa_cons (fe_var 4 (pv 4)) (fa_cons fe_int fa_nil)))) (fk_of (fe_meth C_Values_of_play cl_V hr (Nat.le_refl _) rfl (fe_var 0 (pv 0)) (fa_cons (fe_var 3 (pv 3)) fa_nil)))))))
noncomputable def RC6 (vf : NestedKey → Int) (S : List NestedKey) : Nat → Nat → List D → Option D
  | 0, _ => fun _ => none
  | n + 1, j => match j with
    | 0 => runF 4 (B_Values_of_play vf S (RC6 vf S n 0) (RC6 vf S n 1))
    | 1 => runF 5 (B_Values_of_card vf S (RC6 vf S n 0) (RC6 vf S n 1))
    | _ => fun _ => none
theorem rc_ok6 {fi : Addr} {fdi : FuncData} (hM : MemOk (memV P w vf C S)) (hW : MemW (memV P w vf C S)) (hB : Bt mg) (cl_V : L2.Cls K C) (na_V : L2.NoAttr K C "known") (mk_V : L2.Mk K C fi) (F_init : FnOk P w K mg base CX0 1 fi fdi ["self"] (spInit P w C)) (b_init : L2.Binds K fdi ["self"] []) (m_V : mg "Values" = some (.ref C)) (C_can : Cal P w K mg base (memV P w vf C S) "can" 6 1 F_can) (C_lay : Cal P w K mg base (memV P w vf C S) "lay" 7 2 F_lay) (C_lead : Cal P w K mg base (memV P w vf C S) "lead" 3 2 F_lead) {f0 : Addr} {fd0 : FuncData} (Fn0 : Fun K "of_play" "Values.of_play" s_Values_of_play f0 fd0) (bi0 : L2.Binds K fd0 ["self", "play"] []) (me0 : L2.Meth K C "of_play" f0) {f1 : Addr} {fd1 : FuncData} (Fn1 : Fun K "of_card" "Values.of_card" s_Values_of_card f1 fd1) (bi1 : L2.Binds K fd1 ["self", "play", "card"] []) (me1 : L2.Meth K C "of_card" f1) : ∀ n, CalM P w K mg base (memV P w vf C S) C "of_play" (9 + n) 1 (RC6 vf S n 0) ∧ CalM P w K mg base (memV P w vf C S) C "of_card" (9 + n) 2 (RC6 vf S n 1)
  | 0 => ⟨⟨f0, fd0, _, me0, bi0, fnok_none rfl⟩, ⟨f1, fd1, _, me1, bi1, fnok_none rfl⟩⟩
  | n + 1 => by
    have ih := rc_ok6 hM hW hB cl_V na_V mk_V F_init b_init m_V C_can C_lay C_lead Fn0 bi0 me0 Fn1 bi1 me1 n
    obtain ⟨h0, h1⟩ := ih
    exact ⟨⟨f0, fd0, _, me0, bi0, okB_Values_of_play (ℓ := 9 + n) (Nat.le_add_right _ _) hM hW hB cl_V na_V mk_V F_init b_init m_V C_can h1 Fn0⟩, ⟨f1, fd1, _, me1, bi1, okB_Values_of_card (ℓ := 9 + n) (Nat.le_add_right _ _) hM hW hB cl_V na_V mk_V F_init b_init m_V C_lay C_lead h0 Fn1⟩⟩
abbrev s_gets : Stmt := topS 29
abbrev N_gets : List Str := ["values", "play", "who"]
theorem sc_gets : FnScope N_gets ["values", "play", "who"] (defScope s_gets) := ⟨rfl, rfl, rfl, by decide +kernel, rfl, by decide +kernel, by decide +kernel⟩
noncomputable def B_gets (vf : NestedKey → Int) (S : List NestedKey) : SF := (cRet (c2 mulD (cMeth 1 (RC6 vf S 20 0) (cV 0) (cCons (cV 1) cNil)) (c2 subD (cC (.int 1)) (c2 mulD (cC (.int 2)) (cV 2)))))
@[irreducible] noncomputable def F_gets (vf : NestedKey → Int) (S : List NestedKey) : List D → Option D := runF 3 (B_gets vf S)
theorem F_gets_def (vf : NestedKey → Int) (S : List NestedKey) : F_gets vf S = runF 3 (B_gets vf S) := by unfold F_gets; rfl
theorem ok_gets {fi : Addr} {fdi : FuncData} (hM : MemOk (memV P w vf C S)) (hW : MemW (memV P w vf C S)) (hB : Bt mg) (cl_V : L2.Cls K C) (na_V : L2.NoAttr K C "known") (mk_V : L2.Mk K C fi) (F_init : FnOk P w K mg base CX0 1 fi fdi ["self"] (spInit P w C)) (b_init : L2.Binds K fdi ["self"] []) (m_V : mg "Values" = some (.ref C)) (C_Values_of_play : CalM P w K mg base (memV P w vf C S) C "of_play" 29 1 (RC6 vf S 20 0)) {f : Addr} {fd : FuncData} (Fn : Fun K "gets" "gets" s_gets f fd) : FnOk P w K mg base CX0 30 f fd ["values", "play", "who"] (spF K (memV P w vf C S) 3 (F_gets vf S)) :=
  F_gets_def vf S ▸ fun_ok Fn sc_gets fun cdv A outer s H E hr => (fss_one (fs_ret (fe_op (o_mul hM) (fk_of (fe_meth C_Values_of_play cl_V hr (by decide) rfl (fe_var 0 (pv 0)) (fa_cons (fe_var 1 (pv 1)) fa_nil))) (fk_of (fe_op o_sub (fk_of fe_int) (fk_of (fe_op (o_mul hM) (fk_of fe_int) (fk_of (fe_var 2 (pv 2))))))))))
abbrev s_paper_from : Stmt := topS 30
abbrev N_paper_from : List Str := ["values", "play", "who", "least", "found", "card", "new", "had", "rest"]
theorem sc_paper_from : FnScope N_paper_from ["values", "play", "who", "least"] (defScope s_paper_from) := ⟨rfl, rfl, rfl, by decide +kernel, rfl, by decide +kernel, by decide +kernel⟩
noncomputable def B_paper_from (vf : NestedKey → Int) (S : List NestedKey) (g0 : List D → Option D) : SF := (cSeq (cOwn 4 (chk 1000 cNil))
  (cSeq (cFor (cItT (cCall F_can (cArgs 1 (cCons (cV 1) cNil)))) (gV 5) (cSeq (cAsg (cCall F_lay (cArgs 2 (cCons (cV 1) (cCons (cV 5) cNil)))) (gT 2 (gC (gV 6) (gC (gV 7) gN))))
  (cSeq (cAsg (c2 subD (cV 3) (cCall F_lead (cArgs 2 (cCons (cV 7) (cCons (cV 2) cNil))))) (gV 8))
  (cIfS (cT1 asB (c2 neD (c2 ixD (cV 1) (cC (.int 2))) (cV 2))) (cApp 4 (cTup (cCons (cV 5) (cCons (cCall g0 (cArgs 4 (cCons (cV 0) (cCons (cV 6) (cCons (cV 2) (cCons (cV 8) cNil)))))) cNil)))) (cIfS (cT1 asB (c2 geD (cCall (F_gets vf S) (cArgs 3 (cCons (cV 0) (cCons (cV 6) (cCons (cV 2) cNil))))) (cV 8))) (cRet (cTup (cCons (cV 5) (cCons (cCall g0 (cArgs 4 (cCons (cV 0) (cCons (cV 6) (cCons (cV 2) (cCons (cV 8) cNil)))))) cNil)))) cNext)))))
  (cSeq (cFrz 4) (cRet (cCall tupleD (cCons (cV 4) cNil))))))
theorem okB_paper_from {fi : Addr} {fdi : FuncData} {ℓ : Nat} (hl : 32 ≤ ℓ) {g0 : List D → Option D} (hM : MemOk (memV P w vf C S)) (hW : MemW (memV P w vf C S)) (hB : Bt mg) (cl_V : L2.Cls K C) (na_V : L2.NoAttr K C "known") (mk_V : L2.Mk K C fi) (F_init : FnOk P w K mg base CX0 1 fi fdi ["self"] (spInit P w C)) (b_init : L2.Binds K fdi ["self"] []) (m_V : mg "Values" = some (.ref C)) (C_can : Cal P w K mg base (memV P w vf C S) "can" 6 1 F_can) (C_lay : Cal P w K mg base (memV P w vf C S) "lay" 7 2 F_lay) (C_lead : Cal P w K mg base (memV P w vf C S) "lead" 3 2 F_lead) (C_gets : Cal P w K mg base (memV P w vf C S) "gets" 30 3 (F_gets vf S)) (C_paper_from : Cal P w K mg base (memV P w vf C S) "paper_from" ℓ 4 g0) {f : Addr} {fd : FuncData} (Fn : Fun K "paper_from" "paper_from" s_paper_from f fd) : FnOk P w K mg base CX0 (ℓ + 1) f fd ["values", "play", "who", "least"] (spF K (memV P w vf C S) 4 (runF 9 (B_paper_from vf S g0))) :=
  fun_ok Fn sc_paper_from fun cdv A outer s H E hr => (fss_cons (own_of (ps_set (i := 4) sc_paper_from.nd rfl (by first | exact Or.inl rfl | exact Or.inr rfl) (fn_lst hM fa_nil)))
      (fss_cons (fs_for PassesOwn.never rfl (fi_tup (fe_cal C_can hr (Nat.le_trans (by decide) hl) (by rfl) (fa_cons (fe_var 1 (pv 1)) fa_nil))) (fg_name (pg_name (i := 5) sc_paper_from.nd rfl (by first | exact Or.inl rfl | exact Or.inr rfl))) (fss_cons (fs_asg (fe_cal C_lay hr (Nat.le_trans (by decide) hl) (by rfl) (fa_cons (fe_var 1 (pv 1)) (fa_cons (fe_var 5 (pv 5)) fa_nil))) (fg_tup (n := 2) rfl (fgs_cons (fg_name (pg_name (i := 6) sc_paper_from.nd rfl (by first | exact Or.inl rfl | exact Or.inr rfl))) (fgs_cons (fg_name (pg_name (i := 7) sc_paper_from.nd rfl (by first | exact Or.inl rfl | exact Or.inr rfl))) fgs_nil))))
      (fss_cons (fs_set (ps_set (i := 8) sc_paper_from.nd rfl (by first | exact Or.inl rfl | exact Or.inr rfl) (fe_op o_sub (fk_of (fe_var 3 (pv 3))) (fk_of (fe_cal C_lead hr (Nat.le_trans (by decide) hl) (by rfl) (fa_cons (fe_var 7 (pv 7)) (fa_cons (fe_var 2 (pv 2)) fa_nil)))))))
      (fss_one (fs_if (ft_cmp (o_ne (u64 hr)) (fk_of (fe_ix o_ix (fk_of (fe_var 1 (pv 1))) (fk_of fe_int) (fun _ _ => rfl))) (fk_of (fe_var 2 (pv 2))) (by rfl)) (fss_one (fs_app (te := tVar 4) hM hW (ps_expr (pe_bm PySem.F.plainAttrs_list PySem.F.slot_list_append PySem.F.type_list_append mt_append (pv 4) (fa_cons (fe_tup hM (fa_cons (fe_var 5 (pv 5)) (fa_cons (fe_cal C_paper_from hr (Nat.le_refl _) (by rfl) (fa_cons (fe_var 0 (pv 0)) (fa_cons (fe_var 6 (pv 6)) (fa_cons (fe_var 2 (pv 2)) (fa_cons (fe_var 8 (pv 8)) fa_nil))))) fa_nil))) fa_nil))))) (fss_one (fs_if (ft_cmp o_ge (fk_of (fe_cal C_gets hr (Nat.le_trans (by decide) hl) (by rfl) (fa_cons (fe_var 0 (pv 0)) (fa_cons (fe_var 6 (pv 6)) (fa_cons (fe_var 2 (pv 2)) fa_nil))))) (fk_of (fe_var 8 (pv 8))) (by rfl)) (fss_one (fs_ret (fe_tup hM (fa_cons (fe_var 5 (pv 5)) (fa_cons (fe_cal C_paper_from hr (Nat.le_refl _) (by rfl) (fa_cons (fe_var 0 (pv 0)) (fa_cons (fe_var 6 (pv 6)) (fa_cons (fe_var 2 (pv 2)) (fa_cons (fe_var 8 (pv 8)) fa_nil))))) fa_nil))))) fss_nil)))))))
      (fss_frz 4 (fss_one (fs_ret (fe_callTy (c_tuple hM) (by rfl) hB.tuple (by rfl) (fak_cons (fk_of (fe_var 4 (pv 4))) fak_nil)))))))
noncomputable def RC0 (vf : NestedKey → Int) (S : List NestedKey) : Nat → Nat → List D → Option D
  | 0, _ => fun _ => none
  | n + 1, j => match j with
    | 0 => runF 9 (B_paper_from vf S (RC0 vf S n 0))
    | _ => fun _ => none
theorem rc_ok0 {fi : Addr} {fdi : FuncData} (hM : MemOk (memV P w vf C S)) (hW : MemW (memV P w vf C S)) (hB : Bt mg) (cl_V : L2.Cls K C) (na_V : L2.NoAttr K C "known") (mk_V : L2.Mk K C fi) (F_init : FnOk P w K mg base CX0 1 fi fdi ["self"] (spInit P w C)) (b_init : L2.Binds K fdi ["self"] []) (m_V : mg "Values" = some (.ref C)) (C_can : Cal P w K mg base (memV P w vf C S) "can" 6 1 F_can) (C_lay : Cal P w K mg base (memV P w vf C S) "lay" 7 2 F_lay) (C_lead : Cal P w K mg base (memV P w vf C S) "lead" 3 2 F_lead) (C_gets : Cal P w K mg base (memV P w vf C S) "gets" 30 3 (F_gets vf S)) {f0 : Addr} {fd0 : FuncData} (Fn0 : Fun K "paper_from" "paper_from" s_paper_from f0 fd0) (bi0 : L2.Binds K fd0 ["values", "play", "who", "least"] []) (me0 : mg "paper_from" = some (.ref f0)) : ∀ n, Cal P w K mg base (memV P w vf C S) "paper_from" (32 + n) 4 (RC0 vf S n 0)
  | 0 => ⟨f0, fd0, _, me0, Fn0.kp, bi0, fnok_none rfl⟩
  | n + 1 => by
    have ih := rc_ok0 hM hW hB cl_V na_V mk_V F_init b_init m_V C_can C_lay C_lead C_gets Fn0 bi0 me0 n
    have h0 := ih
    exact ⟨f0, fd0, _, me0, Fn0.kp, bi0, okB_paper_from (ℓ := 32 + n) (Nat.le_add_right _ _) hM hW hB cl_V na_V mk_V F_init b_init m_V C_can C_lay C_lead C_gets h0 Fn0⟩
abbrev s_paper : Stmt := topS 31
abbrev N_paper : List Str := ["play", "who", "least", "values"]
theorem sc_paper : FnScope N_paper ["play", "who", "least"] (defScope s_paper) := ⟨rfl, rfl, rfl, by decide +kernel, rfl, by decide +kernel, by decide +kernel⟩
noncomputable def B_paper (vf : NestedKey → Int) (S : List NestedKey) : SF := (cSeq (cAsg (cC (memD (.int 1))) (gV 3))
  (cSeq (cIfS (cT1 asB (c2 ltD (cCall (F_gets vf S) (cArgs 3 (cCons (cV 3) (cCons (cV 0) (cCons (cV 1) cNil))))) (cV 2))) (cRet (cC .none)) cNext)
  (cRet (cCall (RC0 vf S 20 0) (cArgs 4 (cCons (cV 3) (cCons (cV 0) (cCons (cV 1) (cCons (cV 2) cNil)))))))))
@[irreducible] noncomputable def F_paper (vf : NestedKey → Int) (S : List NestedKey) : List D → Option D := runF 4 (B_paper vf S)
theorem F_paper_def (vf : NestedKey → Int) (S : List NestedKey) : F_paper vf S = runF 4 (B_paper vf S) := by unfold F_paper; rfl
theorem ok_paper {fi : Addr} {fdi : FuncData} (hM : MemOk (memV P w vf C S)) (hW : MemW (memV P w vf C S)) (hB : Bt mg) (cl_V : L2.Cls K C) (na_V : L2.NoAttr K C "known") (mk_V : L2.Mk K C fi) (F_init : FnOk P w K mg base CX0 1 fi fdi ["self"] (spInit P w C)) (b_init : L2.Binds K fdi ["self"] []) (m_V : mg "Values" = some (.ref C)) (C_gets : Cal P w K mg base (memV P w vf C S) "gets" 30 3 (F_gets vf S)) (C_paper_from : Cal P w K mg base (memV P w vf C S) "paper_from" 52 4 (RC0 vf S 20 0)) {f : Addr} {fd : FuncData} (Fn : Fun K "paper" "paper" s_paper f fd) : FnOk P w K mg base CX0 53 f fd ["play", "who", "least"] (spF K (memV P w vf C S) 3 (F_paper vf S)) :=
  F_paper_def vf S ▸ fun_ok Fn sc_paper fun cdv A outer s H E hr => (fss_cons (fs_set (ps_set (i := 3) sc_paper.nd rfl (by first | exact Or.inl rfl | exact Or.inr rfl) (fe_newV mk_V F_init b_init hr (by first | decide | omega) (by rfl) m_V)))
      (fss_cons (fs_if (ft_cmp o_lt (fk_of (fe_cal C_gets hr (by decide) (by rfl) (fa_cons (fe_var 3 (pv 3)) (fa_cons (fe_var 0 (pv 0)) (fa_cons (fe_var 1 (pv 1)) fa_nil))))) (fk_of (fe_var 2 (pv 2))) (by rfl)) (fss_one (fs_ret fe_non)) fss_nil)
      (fss_one (fs_ret (fe_cal C_paper_from hr (by decide) (by rfl) (fa_cons (fe_var 3 (pv 3)) (fa_cons (fe_var 0 (pv 0)) (fa_cons (fe_var 1 (pv 1)) (fa_cons (fe_var 2 (pv 2)) fa_nil)))))))))
abbrev s_is_pair : Stmt := topS 32
abbrev N_is_pair : List Str := ["play", "who", "least", "card", "thing", "new", "had"]
theorem sc_is_pair : FnScope N_is_pair ["play", "who", "least", "card", "thing"] (defScope s_is_pair) := ⟨rfl, rfl, rfl, by decide +kernel, rfl, by decide +kernel, by decide +kernel⟩
noncomputable def B_is_pair (vf : NestedKey → Int) (S : List NestedKey) (g0 g1 : List D → Option D) : SF := (cSeq (cIfS (cOr (cNot (cT1 asB (c1 (isiD "tuple") (cV 4)))) (cOr (cT1 asB (c2 neD (cCall lenD (cCons (cV 4) cNil)) (cC (.int 2)))) (cOr (cNot (cT1 asB (cCall F_is_card (cArgs 1 (cCons (c2 ixD (cV 4) (cC (.int 0))) cNil))))) (cT1 asB (c2 neD (c2 ixD (cV 4) (cC (.int 0))) (cV 3)))))) (cRet (cC (.bool false))) cNext)
  (cSeq (cAsg (cCall F_lay (cArgs 2 (cCons (cV 0) (cCons (cV 3) cNil)))) (gT 2 (gC (gV 5) (gC (gV 6) gN))))
  (cRet (cCall g1 (cArgs 4 (cCons (cV 5) (cCons (cV 1) (cCons (c2 subD (cV 2) (cCall F_lead (cArgs 2 (cCons (cV 6) (cCons (cV 1) cNil))))) (cCons (c2 ixD (cV 4) (cC (.int 1))) cNil)))))))))
theorem okB_is_pair {fi : Addr} {fdi : FuncData} {ℓ : Nat} (hl : 9 ≤ ℓ) {g0 g1 : List D → Option D} (hM : MemOk (memV P w vf C S)) (hW : MemW (memV P w vf C S)) (hB : Bt mg) (cl_V : L2.Cls K C) (na_V : L2.NoAttr K C "known") (mk_V : L2.Mk K C fi) (F_init : FnOk P w K mg base CX0 1 fi fdi ["self"] (spInit P w C)) (b_init : L2.Binds K fdi ["self"] []) (m_V : mg "Values" = some (.ref C)) (C_is_card : Cal P w K mg base (memV P w vf C S) "is_card" 4 1 F_is_card) (C_lay : Cal P w K mg base (memV P w vf C S) "lay" 7 2 F_lay) (C_lead : Cal P w K mg base (memV P w vf C S) "lead" 3 2 F_lead) (C_is_paper : Cal P w K mg base (memV P w vf C S) "is_paper" ℓ 4 g1) {f : Addr} {fd : FuncData} (Fn : Fun K "is_pair" "is_pair" s_is_pair f fd) : FnOk P w K mg base CX0 (ℓ + 1) f fd ["play", "who", "least", "card", "thing"] (spF K (memV P w vf C S) 5 (runF 7 (B_is_pair vf S g0 g1))) :=
  fun_ok Fn sc_is_pair fun cdv A outer s H E hr => (fss_cons (fs_if (fw_pt (fw_or (ft_not (ft_val (fe_isi (Tn := "tuple") (by rfl) hB.isinstance (by rfl) hB.tuple (by rfl) (fk_of (fe_var 4 (pv 4)))))) (fw_or (ft_cmp (o_ne (u64 hr)) (fk_of (fe_callB c_len (by rfl) hB.len (by rfl) (fak_cons (fk_of (fe_var 4 (pv 4))) fak_nil))) (fk_of fe_int) (by rfl)) (fw_or (ft_not (ft_val (fe_cal C_is_card hr (Nat.le_trans (by decide) hl) (by rfl) (fa_cons (fe_ix o_ix (fk_of (fe_var 4 (pv 4))) (fk_of fe_int) (fun _ _ => rfl)) fa_nil)))) (fw_or1 (ft_cmp (o_ne (u64 hr)) (fk_of (fe_ix o_ix (fk_of (fe_var 4 (pv 4))) (fk_of fe_int) (fun _ _ => rfl))) (fk_of (fe_var 3 (pv 3))) (by rfl))))))) (fss_one (fs_ret fe_bl)) fss_nil)
      (fss_cons (fs_asg (fe_cal C_lay hr (Nat.le_trans (by decide) hl) (by rfl) (fa_cons (fe_var 0 (pv 0)) (fa_cons (fe_var 3 (pv 3)) fa_nil))) (fg_tup (n := 2) rfl (fgs_cons (fg_name (pg_name (i := 5) sc_is_pair.nd rfl (by first | exact Or.inl rfl | exact Or.inr rfl))) (fgs_cons (fg_name (pg_name (i := 6) sc_is_pair.nd rfl (by first | exact Or.inl rfl | exact Or.inr rfl))) fgs_nil))))
      (fss_one (fs_ret (fe_cal C_is_paper hr (Nat.le_refl _) (by rfl) (fa_cons (fe_var 5 (pv 5)) (fa_cons (fe_var 1 (pv 1)) (fa_cons (fe_op o_sub (fk_of (fe_var 2 (pv 2))) (fk_of (fe_cal C_lead hr (Nat.le_trans (by decide) hl) (by rfl) (fa_cons (fe_var 6 (pv 6)) (fa_cons (fe_var 1 (pv 1)) fa_nil))))) (fa_cons (fe_ix o_ix (fk_of (fe_var 4 (pv 4))) (fk_of fe_int) (fun _ _ => rfl)) fa_nil)))))))))
abbrev s_is_paper : Stmt := topS 33
abbrev N_is_paper : List Str := ["play", "who", "least", "thing", "some", "card", "part"]
theorem sc_is_paper : FnScope N_is_paper ["play", "who", "least", "thing"] (defScope s_is_paper) := ⟨rfl, rfl, rfl, by decide +kernel, rfl, by decide +kernel, by decide +kernel⟩
noncomputable def B_is_paper (vf : NestedKey → Int) (S : List NestedKey) (g0 g1 : List D → Option D) : SF := (cSeq (cIfS (cNot (cT1 asB (c1 (isiD "tuple") (cV 3)))) (cRet (cC (.bool false))) cNext)
  (cSeq (cAsg (cCall F_can (cArgs 1 (cCons (cV 0) cNil))) (gV 4))
  (cSeq (cIfS (cT1 asB (c2 isD (c2 ixD (cV 0) (cC (.int 2))) (cC .none))) (cRet (cAndV (c2 eqD (cCall lenD (cCons (cV 3) cNil)) (cC (.int 0))) (c2 leD (cV 2) (cC (.int 0))))) cNext)
  (cSeq (cIfS (cT1 asB (c2 eqD (c2 ixD (cV 0) (cC (.int 2))) (cV 1))) (cRet (cCall anyD (cCons (cL (cLc (cItT (cV 4)) [5] (gV 5) cYes (cCall g0 (cArgs 5 (cCons (cV 0) (cCons (cV 1) (cCons (cV 2) (cCons (cV 5) (cCons (cV 3) cNil))))))))) cNil))) cNext)
  (cSeq (cIfS (cT1 asB (c2 neD (cCall lenD (cCons (cV 3) cNil)) (cCall lenD (cCons (cV 4) cNil)))) (cRet (cC (.bool false))) cNext)
  (cRet (cCall allD (cCons (cL (cLc (cZipTT (cCons (cV 4) (cCons (cV 3) cNil))) [5, 6] (gT 2 (gC (gV 5) (gC (gV 6) gN))) cYes (cCall g0 (cArgs 5 (cCons (cV 0) (cCons (cV 1) (cCons (cV 2) (cCons (cV 5) (cCons (cV 6) cNil))))))))) cNil))))))))
theorem okB_is_paper {fi : Addr} {fdi : FuncData} {ℓ : Nat} (hl : 9 ≤ ℓ) {g0 g1 : List D → Option D} (hM : MemOk (memV P w vf C S)) (hW : MemW (memV P w vf C S)) (hB : Bt mg) (cl_V : L2.Cls K C) (na_V : L2.NoAttr K C "known") (mk_V : L2.Mk K C fi) (F_init : FnOk P w K mg base CX0 1 fi fdi ["self"] (spInit P w C)) (b_init : L2.Binds K fdi ["self"] []) (m_V : mg "Values" = some (.ref C)) (C_can : Cal P w K mg base (memV P w vf C S) "can" 6 1 F_can) (C_is_pair : Cal P w K mg base (memV P w vf C S) "is_pair" ℓ 5 g0) {f : Addr} {fd : FuncData} (Fn : Fun K "is_paper" "is_paper" s_is_paper f fd) : FnOk P w K mg base CX0 (ℓ + 1) f fd ["play", "who", "least", "thing"] (spF K (memV P w vf C S) 4 (runF 7 (B_is_paper vf S g0 g1))) :=
  fun_ok Fn sc_is_paper fun cdv A outer s H E hr => (fss_cons (fs_if (ft_not (ft_val (fe_isi (Tn := "tuple") (by rfl) hB.isinstance (by rfl) hB.tuple (by rfl) (fk_of (fe_var 3 (pv 3)))))) (fss_one (fs_ret fe_bl)) fss_nil)
      (fss_cons (fs_set (ps_set (i := 4) sc_is_paper.nd rfl (by first | exact Or.inl rfl | exact Or.inr rfl) (fe_cal C_can hr (Nat.le_trans (by decide) hl) (by rfl) (fa_cons (fe_var 0 (pv 0)) fa_nil))))
      (fss_cons (fs_if (ft_cmp o_is (fk_of (fe_ix o_ix (fk_of (fe_var 0 (pv 0))) (fk_of fe_int) (fun _ _ => rfl))) (fk_of fe_non) (by rfl)) (fss_one (fs_ret (fe_and (fe_cmp (o_eq (u64 hr)) (fk_of (fe_callB c_len (by rfl) hB.len (by rfl) (fak_cons (fk_of (fe_var 3 (pv 3))) fak_nil))) (fk_of fe_int) (by rfl)) (fe_one (fe_cmp o_le (fk_of (fe_var 2 (pv 2))) (fk_of fe_int) (by rfl)))))) fss_nil)
      (fss_cons (fs_if (ft_cmp (o_eq (u64 hr)) (fk_of (fe_ix o_ix (fk_of (fe_var 0 (pv 0))) (fk_of fe_int) (fun _ _ => rfl))) (fk_of (fe_var 1 (pv 1))) (by rfl)) (fss_one (fs_ret (fe_callB (c_any rfl) (by rfl) hB.any (by rfl) (fak_cons (fk_of (fe_new (fn_lc hM hW rfl sc_is_paper.nd (FI.zero (fi_tup (fe_var 4 (pv 4)))) (blkOk_by (own := [("card", 5)]) (N := N_is_paper) (sc := defScope s_is_paper) (by decide +kernel)) (fun _ _ _ _ _ => (fg_name (pg_name (i := 5) sc_is_paper.nd rfl (by first | exact Or.inl rfl | exact Or.inr rfl)))) (fun _ _ _ _ _ => fts_nil) (fun _ _ _ _ _ => (fe_cal C_is_pair hr (Nat.le_refl _) (by rfl) (fa_cons (fe_var 0 (pv 0)) (fa_cons (fe_var 1 (pv 1)) (fa_cons (fe_var 2 (pv 2)) (fa_cons (fe_var 5 (pv 5)) (fa_cons (fe_var 3 (pv 3)) fa_nil)))))))))) fak_nil)))) fss_nil)
      (fss_cons (fs_if (ft_cmp (o_ne (u64 hr)) (fk_of (fe_callB c_len (by rfl) hB.len (by rfl) (fak_cons (fk_of (fe_var 3 (pv 3))) fak_nil))) (fk_of (fe_callB c_len (by rfl) hB.len (by rfl) (fak_cons (fk_of (fe_var 4 (pv 4))) fak_nil))) (by rfl)) (fss_one (fs_ret fe_bl)) fss_nil)
      (fss_one (fs_ret (fe_callB (c_all rfl) (by rfl) hB.all (by rfl) (fak_cons (fk_of (fe_new (fn_lc hM hW rfl sc_is_paper.nd (FI.zero (fi_zipTT hM (by rfl) hB.zip (fa_cons (fe_var 4 (pv 4)) (fa_cons (fe_var 3 (pv 3)) fa_nil)))) (blkOk_by (own := [("card", 5), ("part", 6)]) (N := N_is_paper) (sc := defScope s_is_paper) (by decide +kernel)) (fun _ _ _ _ _ => (fg_tup (n := 2) rfl (fgs_cons (fg_name (pg_name (i := 5) sc_is_paper.nd rfl (by first | exact Or.inl rfl | exact Or.inr rfl))) (fgs_cons (fg_name (pg_name (i := 6) sc_is_paper.nd rfl (by first | exact Or.inl rfl | exact Or.inr rfl))) fgs_nil)))) (fun _ _ _ _ _ => fts_nil) (fun _ _ _ _ _ => (fe_cal C_is_pair hr (Nat.le_refl _) (by rfl) (fa_cons (fe_var 0 (pv 0)) (fa_cons (fe_var 1 (pv 1)) (fa_cons (fe_var 2 (pv 2)) (fa_cons (fe_var 5 (pv 5)) (fa_cons (fe_var 6 (pv 6)) fa_nil)))))))))) fak_nil)))))))))
noncomputable def RC1 (vf : NestedKey → Int) (S : List NestedKey) : Nat → Nat → List D → Option D
  | 0, _ => fun _ => none
  | n + 1, j => match j with
    | 0 => runF 7 (B_is_pair vf S (RC1 vf S n 0) (RC1 vf S n 1))
    | 1 => runF 7 (B_is_paper vf S (RC1 vf S n 0) (RC1 vf S n 1))
    | _ => fun _ => none
theorem rc_ok1 {fi : Addr} {fdi : FuncData} (hM : MemOk (memV P w vf C S)) (hW : MemW (memV P w vf C S)) (hB : Bt mg) (cl_V : L2.Cls K C) (na_V : L2.NoAttr K C "known") (mk_V : L2.Mk K C fi) (F_init : FnOk P w K mg base CX0 1 fi fdi ["self"] (spInit P w C)) (b_init : L2.Binds K fdi ["self"] []) (m_V : mg "Values" = some (.ref C)) (C_is_card : Cal P w K mg base (memV P w vf C S) "is_card" 4 1 F_is_card) (C_lay : Cal P w K mg base (memV P w vf C S) "lay" 7 2 F_lay) (C_lead : Cal P w K mg base (memV P w vf C S) "lead" 3 2 F_lead) (C_can : Cal P w K mg base (memV P w vf C S) "can" 6 1 F_can) {f0 : Addr} {fd0 : FuncData} (Fn0 : Fun K "is_pair" "is_pair" s_is_pair f0 fd0) (bi0 : L2.Binds K fd0 ["play", "who", "least", "card", "thing"] []) (me0 : mg "is_pair" = some (.ref f0)) {f1 : Addr} {fd1 : FuncData} (Fn1 : Fun K "is_paper" "is_paper" s_is_paper f1 fd1) (bi1 : L2.Binds K fd1 ["play", "who", "least", "thing"] []) (me1 : mg "is_paper" = some (.ref f1)) : ∀ n, Cal P w K mg base (memV P w vf C S) "is_pair" (9 + n) 5 (RC1 vf S n 0) ∧ Cal P w K mg base (memV P w vf C S) "is_paper" (9 + n) 4 (RC1 vf S n 1)
  | 0 => ⟨⟨f0, fd0, _, me0, Fn0.kp, bi0, fnok_none rfl⟩, ⟨f1, fd1, _, me1, Fn1.kp, bi1, fnok_none rfl⟩⟩
  | n + 1 => by
    have ih := rc_ok1 hM hW hB cl_V na_V mk_V F_init b_init m_V C_is_card C_lay C_lead C_can Fn0 bi0 me0 Fn1 bi1 me1 n
    obtain ⟨h0, h1⟩ := ih
    exact ⟨⟨f0, fd0, _, me0, Fn0.kp, bi0, okB_is_pair (ℓ := 9 + n) (Nat.le_add_right _ _) hM hW hB cl_V na_V mk_V F_init b_init m_V C_is_card C_lay C_lead h1 Fn0⟩, ⟨f1, fd1, _, me1, Fn1.kp, bi1, okB_is_paper (ℓ := 9 + n) (Nat.le_add_right _ _) hM hW hB cl_V na_V mk_V F_init b_init m_V C_can h0 Fn1⟩⟩
abbrev s_law_cell_at : Stmt := topS 35
abbrev N_law_cell_at : List Str := ["_law_script", "_law_k"]
theorem sc_law_cell_at : FnScope N_law_cell_at ["_law_script", "_law_k"] (defScope s_law_cell_at) := ⟨rfl, rfl, rfl, by decide +kernel, rfl, by decide +kernel, by decide +kernel⟩
def B_law_cell_at : SF := (cSeq (cIfS (cT1 asB (c2 ltD (cV 1) (cCall lenD (cCons (cV 0) cNil)))) (cRet (c2 ixD (cV 0) (cV 1))) cNext)
  (cRet (cC (.int 0))))
@[irreducible] def F_law_cell_at : List D → Option D := runF 2 (B_law_cell_at)
theorem F_law_cell_at_def : F_law_cell_at = runF 2 (B_law_cell_at) := by unfold F_law_cell_at; rfl
theorem ok_law_cell_at {fi : Addr} {fdi : FuncData} (hM : MemOk (memV P w vf C S)) (hW : MemW (memV P w vf C S)) (hB : Bt mg) (cl_V : L2.Cls K C) (na_V : L2.NoAttr K C "known") (mk_V : L2.Mk K C fi) (F_init : FnOk P w K mg base CX0 1 fi fdi ["self"] (spInit P w C)) (b_init : L2.Binds K fdi ["self"] []) (m_V : mg "Values" = some (.ref C)) {f : Addr} {fd : FuncData} (Fn : Fun K "_law_cell_at" "_law_cell_at" s_law_cell_at f fd) : FnOk P w K mg base CX0 3 f fd ["_law_script", "_law_k"] (spF K (memV P w vf C S) 2 (F_law_cell_at)) :=
  F_law_cell_at_def ▸ fun_ok Fn sc_law_cell_at fun cdv A outer s H E hr => (fss_cons (fs_if (ft_cmp o_lt (fk_of (fe_var 1 (pv 1))) (fk_of (fe_callB c_len (by rfl) hB.len (by rfl) (fak_cons (fk_of (fe_var 0 (pv 0))) fak_nil))) (by rfl)) (fss_one (fs_ret (fe_ix o_ix (fk_of (fe_var 0 (pv 0))) (fk_of (fe_var 1 (pv 1))) (fun _ _ => rfl)))) fss_nil)
      (fss_one (fs_ret fe_int)))
abbrev s_law_mixed : Stmt := topS 36
abbrev N_law_mixed : List Str := ["_law_script", "_law_k", "_law_drawn_here"]
theorem sc_law_mixed : FnScope N_law_mixed ["_law_script", "_law_k"] (defScope s_law_mixed) := ⟨rfl, rfl, rfl, by decide +kernel, rfl, by decide +kernel, by decide +kernel⟩
def B_law_mixed : SF := (cSeq (cAsg (c2 modD (c2 mulD (c2 addD (c2 addD (cCall F_law_cell_at (cArgs 2 (cCons (cV 0) (cCons (cV 1) cNil)))) (c2 mulD (cC (.int 7919)) (cV 1))) (cC (.int 1))) (cC (.int 48271))) (cC (.int 2147483647))) (gV 2))
  (cRet (c2 modD (c2 addD (c2 addD (c2 mulD (cV 2) (cV 2)) (c2 mulD (cC (.int 7)) (cV 2))) (cV 1)) (cC (.int 2147483629)))))
@[irreducible] def F_law_mixed : List D → Option D := runF 3 (B_law_mixed)
theorem F_law_mixed_def : F_law_mixed = runF 3 (B_law_mixed) := by unfold F_law_mixed; rfl
theorem ok_law_mixed {fi : Addr} {fdi : FuncData} (hM : MemOk (memV P w vf C S)) (hW : MemW (memV P w vf C S)) (hB : Bt mg) (cl_V : L2.Cls K C) (na_V : L2.NoAttr K C "known") (mk_V : L2.Mk K C fi) (F_init : FnOk P w K mg base CX0 1 fi fdi ["self"] (spInit P w C)) (b_init : L2.Binds K fdi ["self"] []) (m_V : mg "Values" = some (.ref C)) (C_law_cell_at : Cal P w K mg base (memV P w vf C S) "_law_cell_at" 3 2 F_law_cell_at) {f : Addr} {fd : FuncData} (Fn : Fun K "_law_mixed" "_law_mixed" s_law_mixed f fd) : FnOk P w K mg base CX0 4 f fd ["_law_script", "_law_k"] (spF K (memV P w vf C S) 2 (F_law_mixed)) :=
  F_law_mixed_def ▸ fun_ok Fn sc_law_mixed fun cdv A outer s H E hr => (fss_cons (fs_set (ps_set (i := 2) sc_law_mixed.nd rfl (by first | exact Or.inl rfl | exact Or.inr rfl) (fe_op o_mod (fk_of (fe_op (o_mul hM) (fk_of (fe_op (o_add hM) (fk_of (fe_op (o_add hM) (fk_of (fe_cal C_law_cell_at hr (by decide) (by rfl) (fa_cons (fe_var 0 (pv 0)) (fa_cons (fe_var 1 (pv 1)) fa_nil)))) (fk_of (fe_op (o_mul hM) (fk_of fe_int) (fk_of (fe_var 1 (pv 1))))))) (fk_of fe_int))) (fk_of fe_int))) (fk_of fe_int))))
      (fss_one (fs_ret (fe_op o_mod (fk_of (fe_op (o_add hM) (fk_of (fe_op (o_add hM) (fk_of (fe_op (o_mul hM) (fk_of (fe_var 2 (pv 2))) (fk_of (fe_var 2 (pv 2))))) (fk_of (fe_op (o_mul hM) (fk_of fe_int) (fk_of (fe_var 2 (pv 2))))))) (fk_of (fe_var 1 (pv 1))))) (fk_of fe_int)))))
abbrev s_law_drawn : Stmt := topS 37
abbrev N_law_drawn : List Str := ["_law_number", "_law_k", "_law_drawn_here"]
theorem sc_law_drawn : FnScope N_law_drawn ["_law_number", "_law_k"] (defScope s_law_drawn) := ⟨rfl, rfl, rfl, by decide +kernel, rfl, by decide +kernel, by decide +kernel⟩
def B_law_drawn : SF := (cSeq (cAsg (c2 modD (c2 mulD (c2 addD (c2 addD (cV 0) (c2 mulD (cC (.int 104729)) (cV 1))) (cC (.int 17))) (cC (.int 69621))) (cC (.int 2147483647))) (gV 2))
  (cRet (c2 modD (c2 addD (c2 addD (c2 mulD (cV 2) (cV 2)) (c2 mulD (cC (.int 3)) (cV 2))) (cV 1)) (cC (.int 2147483629)))))
@[irreducible] def F_law_drawn : List D → Option D := runF 3 (B_law_drawn)
theorem F_law_drawn_def : F_law_drawn = runF 3 (B_law_drawn) := by unfold F_law_drawn; rfl
theorem ok_law_drawn {fi : Addr} {fdi : FuncData} (hM : MemOk (memV P w vf C S)) (hW : MemW (memV P w vf C S)) (hB : Bt mg) (cl_V : L2.Cls K C) (na_V : L2.NoAttr K C "known") (mk_V : L2.Mk K C fi) (F_init : FnOk P w K mg base CX0 1 fi fdi ["self"] (spInit P w C)) (b_init : L2.Binds K fdi ["self"] []) (m_V : mg "Values" = some (.ref C)) {f : Addr} {fd : FuncData} (Fn : Fun K "_law_drawn" "_law_drawn" s_law_drawn f fd) : FnOk P w K mg base CX0 3 f fd ["_law_number", "_law_k"] (spF K (memV P w vf C S) 2 (F_law_drawn)) :=
  F_law_drawn_def ▸ fun_ok Fn sc_law_drawn fun cdv A outer s H E hr => (fss_cons (fs_set (ps_set (i := 2) sc_law_drawn.nd rfl (by first | exact Or.inl rfl | exact Or.inr rfl) (fe_op o_mod (fk_of (fe_op (o_mul hM) (fk_of (fe_op (o_add hM) (fk_of (fe_op (o_add hM) (fk_of (fe_var 0 (pv 0))) (fk_of (fe_op (o_mul hM) (fk_of fe_int) (fk_of (fe_var 1 (pv 1))))))) (fk_of fe_int))) (fk_of fe_int))) (fk_of fe_int))))
      (fss_one (fs_ret (fe_op o_mod (fk_of (fe_op (o_add hM) (fk_of (fe_op (o_add hM) (fk_of (fe_op (o_mul hM) (fk_of (fe_var 2 (pv 2))) (fk_of (fe_var 2 (pv 2))))) (fk_of (fe_op (o_mul hM) (fk_of fe_int) (fk_of (fe_var 2 (pv 2))))))) (fk_of (fe_var 1 (pv 1))))) (fk_of fe_int)))))
abbrev s_law_deal : Stmt := topS 38
abbrev N_law_deal : List Str := ["_law_number", "_law_many", "_law_found", "_law_near", "_law_k", "_law_drawn_here", "_law_card"]
theorem sc_law_deal : FnScope N_law_deal ["_law_number", "_law_many"] (defScope s_law_deal) := ⟨rfl, rfl, rfl, by decide +kernel, rfl, by decide +kernel, by decide +kernel⟩
def B_law_deal : SF := (cSeq (cOwn 2 (chk 1000 cNil))
  (cSeq (cAsg (c2 modD (cV 0) (cC (.int 4))) (gV 3))
  (cSeq (cAsg (cC (.int 0)) (gV 4))
  (cSeq (whileN (cT1 asB (c2 ltD (cCall lenD (cCons (cO 2) cNil)) (cV 1))) (cSeq (cAsg (c2 fdivD (cCall F_law_drawn (cArgs 2 (cCons (cV 0) (cCons (cV 4) cNil)))) (cC (.int 4))) (gV 5))
  (cSeq (cAsg (cTup (cCons (c2 addD (cC (.int 1)) (c2 modD (cV 5) (cC (.int 13)))) (cCons (c2 modD (c2 fdivD (cV 5) (cC (.int 16))) (cC (.int 4))) cNil))) (gV 6))
  (cSeq (cIfS (cT1 asB (c2 eqD (cV 3) (cC (.int 1)))) (cAsg (cTup (cCons (c2 addD (cC (.int 4)) (c2 modD (cV 5) (cC (.int 5)))) (cCons (c2 modD (c2 fdivD (cV 5) (cC (.int 16))) (cC (.int 4))) cNil))) (gV 6)) cNext)
  (cSeq (cIfS (cT1 asB (c2 eqD (cV 3) (cC (.int 2)))) (cAsg (cTup (cCons (c2 ixD (cTup (cCons (cC (.int 1)) (cCons (cC (.int 2)) (cCons (cC (.int 3)) (cCons (cC (.int 5)) (cCons (cC (.int 10)) (cCons (cC (.int 11)) (cCons (cC (.int 13)) (cCons (cC (.int 4)) cNil))))))))) (c2 modD (cV 5) (cC (.int 8)))) (cCons (c2 modD (c2 fdivD (cV 5) (cC (.int 16))) (c2 ixD (cTup (cCons (cC (.int 4)) (cCons (cC (.int 1)) (cCons (cC (.int 2)) (cCons (cC (.int 4)) cNil))))) (c2 modD (c2 fdivD (cV 0) (cC (.int 4))) (cC (.int 4))))) cNil))) (gV 6)) cNext)
  (cSeq (cIfS (cT1 asB (c2 eqD (cV 3) (cC (.int 3)))) (cAsg (cTup (cCons (c2 ixD (cTup (cCons (cC (.int 5)) (cCons (cC (.int 10)) (cCons (cC (.int 11)) (cCons (cC (.int 12)) cNil))))) (c2 modD (cV 5) (cC (.int 4)))) (cCons (c2 modD (c2 fdivD (cV 5) (cC (.int 16))) (cC (.int 4))) cNil))) (gV 6)) cNext)
  (cSeq (cAsg (c2 addD (cV 4) (cC (.int 1))) (gV 4))
  (cSeq (cIfS (cT1 asB (c2 gtD (cV 4) (cC (.int 60)))) (cAsg (cTup (cCons (c2 addD (cC (.int 1)) (c2 modD (cV 4) (cC (.int 13)))) (cCons (c2 modD (c2 fdivD (cV 4) (cC (.int 13))) (cC (.int 4))) cNil))) (gV 6)) cNext)
  (cIfS (cT1 asB (c2 ninD (cV 6) (cO 2))) (cApp 2 (cV 6)) cNext)))))))) 200)
  (cSeq (cFrz 2) (cRet (cCall tupleD (cCons (cV 2) cNil))))))))
@[irreducible] def F_law_deal : List D → Option D := runF 7 (B_law_deal)
theorem F_law_deal_def : F_law_deal = runF 7 (B_law_deal) := by unfold F_law_deal; rfl
theorem ok_law_deal {fi : Addr} {fdi : FuncData} (hM : MemOk (memV P w vf C S)) (hW : MemW (memV P w vf C S)) (hB : Bt mg) (cl_V : L2.Cls K C) (na_V : L2.NoAttr K C "known") (mk_V : L2.Mk K C fi) (F_init : FnOk P w K mg base CX0 1 fi fdi ["self"] (spInit P w C)) (b_init : L2.Binds K fdi ["self"] []) (m_V : mg "Values" = some (.ref C)) (C_law_drawn : Cal P w K mg base (memV P w vf C S) "_law_drawn" 3 2 F_law_drawn) {f : Addr} {fd : FuncData} (Fn : Fun K "_law_deal" "_law_deal" s_law_deal f fd) : FnOk P w K mg base CX0 4 f fd ["_law_number", "_law_many"] (spF K (memV P w vf C S) 2 (F_law_deal)) :=
  F_law_deal_def ▸ fun_ok Fn sc_law_deal fun cdv A outer s H E hr => (fss_cons (own_of (ps_set (i := 2) sc_law_deal.nd rfl (by first | exact Or.inl rfl | exact Or.inr rfl) (fn_lst hM fa_nil)))
      (fss_cons (fs_set (ps_set (i := 3) sc_law_deal.nd rfl (by first | exact Or.inl rfl | exact Or.inr rfl) (fe_op o_mod (fk_of (fe_var 0 (pv 0))) (fk_of fe_int))))
      (fss_cons (fs_set (ps_set (i := 4) sc_law_deal.nd rfl (by first | exact Or.inl rfl | exact Or.inr rfl) fe_int))
      (fss_cons (fs_while 200 PassesOwn.never (ft_cmp o_lt (fk_of (fe_callB c_len (by rfl) hB.len (by rfl) (fak_cons (fk_own 2 (pv 2)) fak_nil))) (fk_of (fe_var 1 (pv 1))) (by rfl)) (fss_cons (fs_set (ps_set (i := 5) sc_law_deal.nd rfl (by first | exact Or.inl rfl | exact Or.inr rfl) (fe_op o_fdiv (fk_of (fe_cal C_law_drawn hr (by decide) (by rfl) (fa_cons (fe_var 0 (pv 0)) (fa_cons (fe_var 4 (pv 4)) fa_nil)))) (fk_of fe_int))))
      (fss_cons (fs_set (ps_set (i := 6) sc_law_deal.nd rfl (by first | exact Or.inl rfl | exact Or.inr rfl) (fe_tup hM (fa_cons (fe_op (o_add hM) (fk_of fe_int) (fk_of (fe_op o_mod (fk_of (fe_var 5 (pv 5))) (fk_of fe_int)))) (fa_cons (fe_op o_mod (fk_of (fe_op o_fdiv (fk_of (fe_var 5 (pv 5))) (fk_of fe_int))) (fk_of fe_int)) fa_nil)))))
      (fss_cons (fs_if (ft_cmp (o_eq (u64 hr)) (fk_of (fe_var 3 (pv 3))) (fk_of fe_int) (by rfl)) (fss_one (fs_set (ps_set (i := 6) sc_law_deal.nd rfl (by first | exact Or.inl rfl | exact Or.inr rfl) (fe_tup hM (fa_cons (fe_op (o_add hM) (fk_of fe_int) (fk_of (fe_op o_mod (fk_of (fe_var 5 (pv 5))) (fk_of fe_int)))) (fa_cons (fe_op o_mod (fk_of (fe_op o_fdiv (fk_of (fe_var 5 (pv 5))) (fk_of fe_int))) (fk_of fe_int)) fa_nil)))))) fss_nil)
      (fss_cons (fs_if (ft_cmp (o_eq (u64 hr)) (fk_of (fe_var 3 (pv 3))) (fk_of fe_int) (by rfl)) (fss_one (fs_set (ps_set (i := 6) sc_law_deal.nd rfl (by first | exact Or.inl rfl | exact Or.inr rfl) (fe_tup hM (fa_cons (fe_ix o_ix (fk_of (fe_tup hM (fa_cons fe_int (fa_cons fe_int (fa_cons fe_int (fa_cons fe_int (fa_cons fe_int (fa_cons fe_int (fa_cons fe_int (fa_cons fe_int fa_nil)))))))))) (fk_of (fe_op o_mod (fk_of (fe_var 5 (pv 5))) (fk_of fe_int))) (fun _ _ => rfl)) (fa_cons (fe_op o_mod (fk_of (fe_op o_fdiv (fk_of (fe_var 5 (pv 5))) (fk_of fe_int))) (fk_of (fe_ix o_ix (fk_of (fe_tup hM (fa_cons fe_int (fa_cons fe_int (fa_cons fe_int (fa_cons fe_int fa_nil)))))) (fk_of (fe_op o_mod (fk_of (fe_op o_fdiv (fk_of (fe_var 0 (pv 0))) (fk_of fe_int))) (fk_of fe_int))) (fun _ _ => rfl)))) fa_nil)))))) fss_nil)
      (fss_cons (fs_if (ft_cmp (o_eq (u64 hr)) (fk_of (fe_var 3 (pv 3))) (fk_of fe_int) (by rfl)) (fss_one (fs_set (ps_set (i := 6) sc_law_deal.nd rfl (by first | exact Or.inl rfl | exact Or.inr rfl) (fe_tup hM (fa_cons (fe_ix o_ix (fk_of (fe_tup hM (fa_cons fe_int (fa_cons fe_int (fa_cons fe_int (fa_cons fe_int fa_nil)))))) (fk_of (fe_op o_mod (fk_of (fe_var 5 (pv 5))) (fk_of fe_int))) (fun _ _ => rfl)) (fa_cons (fe_op o_mod (fk_of (fe_op o_fdiv (fk_of (fe_var 5 (pv 5))) (fk_of fe_int))) (fk_of fe_int)) fa_nil)))))) fss_nil)
      (fss_cons (fs_set (ps_set (i := 4) sc_law_deal.nd rfl (by first | exact Or.inl rfl | exact Or.inr rfl) (fe_op (o_add hM) (fk_of (fe_var 4 (pv 4))) (fk_of fe_int))))
      (fss_cons (fs_if (ft_cmp o_gt (fk_of (fe_var 4 (pv 4))) (fk_of fe_int) (by rfl)) (fss_one (fs_set (ps_set (i := 6) sc_law_deal.nd rfl (by first | exact Or.inl rfl | exact Or.inr rfl) (fe_tup hM (fa_cons (fe_op (o_add hM) (fk_of fe_int) (fk_of (fe_op o_mod (fk_of (fe_var 4 (pv 4))) (fk_of fe_int)))) (fa_cons (fe_op o_mod (fk_of (fe_op o_fdiv (fk_of (fe_var 4 (pv 4))) (fk_of fe_int))) (fk_of fe_int)) fa_nil)))))) fss_nil)
      (fss_one (fs_if (ft_cmp (o_nin (u65 hr)) (fk_of (fe_var 6 (pv 6))) (fk_own 2 (pv 2)) (by rfl)) (fss_one (fs_app (te := tVar 2) hM hW (ps_expr (pe_bm PySem.F.plainAttrs_list PySem.F.slot_list_append PySem.F.type_list_append mt_append (pv 2) (fa_cons (fe_var 6 (pv 6)) fa_nil))))) fss_nil))))))))))
      (fss_frz 2 (fss_one (fs_ret (fe_callTy (c_tuple hM) (by rfl) hB.tuple (by rfl) (fak_cons (fk_of (fe_var 2 (pv 2))) fak_nil)))))))))
abbrev s_law_sum : Stmt := topS 39
abbrev N_law_sum : List Str := ["_law_pile", "_law_rank", "_law_suit"]
theorem sc_law_sum : FnScope N_law_sum ["_law_pile"] (defScope s_law_sum) := ⟨rfl, rfl, rfl, by decide +kernel, rfl, by decide +kernel, by decide +kernel⟩
def B_law_sum : SF := (cRet (cCall sumD (cCons (cL (cLc (cItT (cV 0)) [1, 2] (gT 2 (gC (gV 1) (gC (gV 2) gN))) cYes (cCall minD (cCons (cV 1) (cCons (cC (.int 10)) cNil))))) cNil)))
@[irreducible] def F_law_sum : List D → Option D := runF 3 (B_law_sum)
theorem F_law_sum_def : F_law_sum = runF 3 (B_law_sum) := by unfold F_law_sum; rfl
theorem ok_law_sum {fi : Addr} {fdi : FuncData} (hM : MemOk (memV P w vf C S)) (hW : MemW (memV P w vf C S)) (hB : Bt mg) (cl_V : L2.Cls K C) (na_V : L2.NoAttr K C "known") (mk_V : L2.Mk K C fi) (F_init : FnOk P w K mg base CX0 1 fi fdi ["self"] (spInit P w C)) (b_init : L2.Binds K fdi ["self"] []) (m_V : mg "Values" = some (.ref C)) {f : Addr} {fd : FuncData} (Fn : Fun K "_law_sum" "_law_sum" s_law_sum f fd) : FnOk P w K mg base CX0 3 f fd ["_law_pile"] (spF K (memV P w vf C S) 1 (F_law_sum)) :=
  F_law_sum_def ▸ fun_ok Fn sc_law_sum fun cdv A outer s H E hr => (fss_one (fs_ret (fe_callB (c_sum rfl) (by rfl) hB.sum (by rfl) (fak_cons (fk_of (fe_new (fn_lc hM hW rfl sc_law_sum.nd (FI.zero (fi_tup (fe_var 0 (pv 0)))) (blkOk_by (own := [("_law_rank", 1), ("_law_suit", 2)]) (N := N_law_sum) (sc := defScope s_law_sum) (by decide +kernel)) (fun _ _ _ _ _ => (fg_tup (n := 2) rfl (fgs_cons (fg_name (pg_name (i := 1) sc_law_sum.nd rfl (by first | exact Or.inl rfl | exact Or.inr rfl))) (fgs_cons (fg_name (pg_name (i := 2) sc_law_sum.nd rfl (by first | exact Or.inl rfl | exact Or.inr rfl))) fgs_nil)))) (fun _ _ _ _ _ => fts_nil) (fun _ _ _ _ _ => (fe_callB (c_min rfl (u65 hr)) (by rfl) hB.min (by rfl) (fak_cons (fk_of (fe_var 1 (pv 1))) (fak_cons (fk_of fe_int) fak_nil))))))) fak_nil))))
abbrev s_law_gain : Stmt := topS 40
abbrev N_law_gain : List Str := ["_law_pile", "_law_found", "_law_ranks", "_law_rank", "_law_suit", "_law_alike", "_law_longest", "_law_many", "_law_some"]
theorem sc_law_gain : FnScope N_law_gain ["_law_pile"] (defScope s_law_gain) := ⟨rfl, rfl, rfl, by decide +kernel, rfl, by decide +kernel, by decide +kernel⟩
def B_law_gain : SF := (cSeq (cAsg (c2 addD (c2 mulD (cC (.int 2)) (cCall intD (cCons (c2 eqD (cCall F_law_sum (cArgs 1 (cCons (cV 0) cNil))) (cC (.int 15))) cNil))) (c2 mulD (cC (.int 2)) (cCall intD (cCons (c2 eqD (cCall F_law_sum (cArgs 1 (cCons (cV 0) cNil))) (cC (.int 31))) cNil)))) (gV 1))
  (cSeq (cAsg (c1 revD (cL (cLc (cItT (cV 0)) [3, 4] (gT 2 (gC (gV 3) (gC (gV 4) gN))) cYes (cV 3)))) (gV 2))
  (cSeq (cAsg (cC (.int 0)) (gV 5))
  (cSeq (whileN (cAnd (cT1 asB (c2 ltD (cV 5) (cCall lenD (cCons (cV 2) cNil)))) (cT1 asB (c2 eqD (c2 ixD (cV 2) (cV 5)) (c2 ixD (cV 2) (cC (.int 0)))))) (cAsg (c2 addD (cV 5) (cC (.int 1))) (gV 5)) 200)
  (cSeq (cAsg (c2 addD (cV 1) (c2 mulD (cV 5) (c2 subD (cV 5) (cC (.int 1))))) (gV 1))
  (cSeq (cAsg (cC (.int 0)) (gV 6))
  (cSeq (cFor (cRg2 (cC (.int 3)) (c2 addD (cCall lenD (cCons (cV 2) cNil)) (cC (.int 1)))) (gV 7) (cSeq (cAsg (cSl (cV 2) cNo (cPt (cV 7))) (gV 8))
  (cIfS (cAnd (cT1 asB (c2 eqD (c1 lensetD (cV 8)) (cV 7))) (cT1 asB (c2 eqD (c2 subD (cCall maxD (cCons (cV 8) cNil)) (cCall minD (cCons (cV 8) cNil))) (c2 subD (cV 7) (cC (.int 1)))))) (cAsg (cV 7) (gV 6)) cNext)))
  (cRet (c2 addD (cV 1) (cV 6))))))))))
@[irreducible] def F_law_gain : List D → Option D := runF 9 (B_law_gain)
theorem F_law_gain_def : F_law_gain = runF 9 (B_law_gain) := by unfold F_law_gain; rfl
theorem ok_law_gain {fi : Addr} {fdi : FuncData} (hM : MemOk (memV P w vf C S)) (hW : MemW (memV P w vf C S)) (hB : Bt mg) (cl_V : L2.Cls K C) (na_V : L2.NoAttr K C "known") (mk_V : L2.Mk K C fi) (F_init : FnOk P w K mg base CX0 1 fi fdi ["self"] (spInit P w C)) (b_init : L2.Binds K fdi ["self"] []) (m_V : mg "Values" = some (.ref C)) (C_law_sum : Cal P w K mg base (memV P w vf C S) "_law_sum" 3 1 F_law_sum) {f : Addr} {fd : FuncData} (Fn : Fun K "_law_gain" "_law_gain" s_law_gain f fd) : FnOk P w K mg base CX0 4 f fd ["_law_pile"] (spF K (memV P w vf C S) 1 (F_law_gain)) :=
  F_law_gain_def ▸ fun_ok Fn sc_law_gain fun cdv A outer s H E hr => (fss_cons (fs_set (ps_set (i := 1) sc_law_gain.nd rfl (by first | exact Or.inl rfl | exact Or.inr rfl) (fe_op (o_add hM) (fk_of (fe_op (o_mul hM) (fk_of fe_int) (fk_of (fe_callTy c_int (by rfl) hB.int (by rfl) (fak_cons (fk_of (fe_cmp (o_eq (u64 hr)) (fk_of (fe_cal C_law_sum hr (by decide) (by rfl) (fa_cons (fe_var 0 (pv 0)) fa_nil))) (fk_of fe_int) (by rfl))) fak_nil))))) (fk_of (fe_op (o_mul hM) (fk_of fe_int) (fk_of (fe_callTy c_int (by rfl) hB.int (by rfl) (fak_cons (fk_of (fe_cmp (o_eq (u64 hr)) (fk_of (fe_cal C_law_sum hr (by decide) (by rfl) (fa_cons (fe_var 0 (pv 0)) fa_nil))) (fk_of fe_int) (by rfl))) fak_nil))))))))
      (fss_cons (fs_set (ps_set (i := 2) sc_law_gain.nd rfl (by first | exact Or.inl rfl | exact Or.inr rfl) (fe_rev hM (fk_of (fe_new (fn_lc hM hW rfl sc_law_gain.nd (FI.zero (fi_tup (fe_var 0 (pv 0)))) (blkOk_by (own := [("_law_rank", 3), ("_law_suit", 4)]) (N := N_law_gain) (sc := defScope s_law_gain) (by decide +kernel)) (fun _ _ _ _ _ => (fg_tup (n := 2) rfl (fgs_cons (fg_name (pg_name (i := 3) sc_law_gain.nd rfl (by first | exact Or.inl rfl | exact Or.inr rfl))) (fgs_cons (fg_name (pg_name (i := 4) sc_law_gain.nd rfl (by first | exact Or.inl rfl | exact Or.inr rfl))) fgs_nil)))) (fun _ _ _ _ _ => fts_nil) (fun _ _ _ _ _ => (fe_var 3 (pv 3)))))))))
      (fss_cons (fs_set (ps_set (i := 5) sc_law_gain.nd rfl (by first | exact Or.inl rfl | exact Or.inr rfl) fe_int))
      (fss_cons (fs_while 200 PassesOwn.never (fw_pt (fw_and (ft_cmp o_lt (fk_of (fe_var 5 (pv 5))) (fk_of (fe_callB c_len (by rfl) hB.len (by rfl) (fak_cons (fk_of (fe_var 2 (pv 2))) fak_nil))) (by rfl)) (fw_and1 (ft_cmp (o_eq (u64 hr)) (fk_of (fe_ix o_ix (fk_of (fe_var 2 (pv 2))) (fk_of (fe_var 5 (pv 5))) (fun _ _ => rfl))) (fk_of (fe_ix o_ix (fk_of (fe_var 2 (pv 2))) (fk_of fe_int) (fun _ _ => rfl))) (by rfl))))) (fss_one (fs_set (ps_set (i := 5) sc_law_gain.nd rfl (by first | exact Or.inl rfl | exact Or.inr rfl) (fe_op (o_add hM) (fk_of (fe_var 5 (pv 5))) (fk_of fe_int))))))
      (fss_cons (fs_set (ps_set (i := 1) sc_law_gain.nd rfl (by first | exact Or.inl rfl | exact Or.inr rfl) (fe_op (o_add hM) (fk_of (fe_var 1 (pv 1))) (fk_of (fe_op (o_mul hM) (fk_of (fe_var 5 (pv 5))) (fk_of (fe_op o_sub (fk_of (fe_var 5 (pv 5))) (fk_of fe_int))))))))
      (fss_cons (fs_set (ps_set (i := 6) sc_law_gain.nd rfl (by first | exact Or.inl rfl | exact Or.inr rfl) fe_int))
      (fss_cons (fs_for PassesOwn.never rfl (fi_range2 (by rfl) hB.range fe_int (fe_op (o_add hM) (fk_of (fe_callB c_len (by rfl) hB.len (by rfl) (fak_cons (fk_of (fe_var 2 (pv 2))) fak_nil))) (fk_of fe_int))) (fg_name (pg_name (i := 7) sc_law_gain.nd rfl (by first | exact Or.inl rfl | exact Or.inr rfl))) (fss_cons (fs_set (ps_set (i := 8) sc_law_gain.nd rfl (by first | exact Or.inl rfl | exact Or.inr rfl) (fe_sl hM (fk_of (fe_var 2 (pv 2))) fo_none (fo_some (fe_var 7 (pv 7))))))
      (fss_one (fs_if (fw_pt (fw_and (ft_cmp (o_eq (u64 hr)) (fk_of (fe_lenset hM rfl (u65 hr) (by rfl) hB.len (by rfl) hB.set (fk_of (fe_var 8 (pv 8))))) (fk_of (fe_var 7 (pv 7))) (by rfl)) (fw_and1 (ft_cmp (o_eq (u64 hr)) (fk_of (fe_op o_sub (fk_of (fe_callB (c_max rfl (u65 hr)) (by rfl) hB.max (by rfl) (fak_cons (fk_of (fe_var 8 (pv 8))) fak_nil))) (fk_of (fe_callB (c_min rfl (u65 hr)) (by rfl) hB.min (by rfl) (fak_cons (fk_of (fe_var 8 (pv 8))) fak_nil))))) (fk_of (fe_op o_sub (fk_of (fe_var 7 (pv 7))) (fk_of fe_int))) (by rfl))))) (fss_one (fs_set (ps_set (i := 6) sc_law_gain.nd rfl (by first | exact Or.inl rfl | exact Or.inr rfl) (fe_var 7 (pv 7))))) fss_nil))))
      (fss_one (fs_ret (fe_op (o_add hM) (fk_of (fe_var 1 (pv 1))) (fk_of (fe_var 6 (pv 6)))))))))))))
abbrev s_law_can : Stmt := topS 41
abbrev N_law_can : List Str := ["_law_play_here", "_law_hands", "_law_pile", "_law_turn", "_law_last", "_law_card"]
theorem sc_law_can : FnScope N_law_can ["_law_play_here"] (defScope s_law_can) := ⟨rfl, rfl, rfl, by decide +kernel, rfl, by decide +kernel, by decide +kernel⟩
def B_law_can : SF := (cSeq (cAsg (cV 0) (gT 4 (gC (gV 1) (gC (gV 2) (gC (gV 3) (gC (gV 4) gN))))))
  (cSeq (cIfS (cT1 asB (c2 isD (cV 3) (cC .none))) (cRet (cL (chk 1000 cNil))) cNext)
  (cRet (cL (cLc (cItT (c2 ixD (cV 1) (cV 3))) [5] (gV 5) (cT1 asB (c2 leD (cCall F_law_sum (cArgs 1 (cCons (c2 addD (cV 2) (cTup (cCons (cV 5) cNil))) cNil))) (cC (.int 31)))) (cV 5))))))
@[irreducible] def F_law_can : List D → Option D := runF 6 (B_law_can)
theorem F_law_can_def : F_law_can = runF 6 (B_law_can) := by unfold F_law_can; rfl
theorem ok_law_can {fi : Addr} {fdi : FuncData} (hM : MemOk (memV P w vf C S)) (hW : MemW (memV P w vf C S)) (hB : Bt mg) (cl_V : L2.Cls K C) (na_V : L2.NoAttr K C "known") (mk_V : L2.Mk K C fi) (F_init : FnOk P w K mg base CX0 1 fi fdi ["self"] (spInit P w C)) (b_init : L2.Binds K fdi ["self"] []) (m_V : mg "Values" = some (.ref C)) (C_law_sum : Cal P w K mg base (memV P w vf C S) "_law_sum" 3 1 F_law_sum) {f : Addr} {fd : FuncData} (Fn : Fun K "_law_can" "_law_can" s_law_can f fd) : FnOk P w K mg base CX0 4 f fd ["_law_play_here"] (spF K (memV P w vf C S) 1 (F_law_can)) :=
  F_law_can_def ▸ fun_ok Fn sc_law_can fun cdv A outer s H E hr => (fss_cons (fs_asg (fe_var 0 (pv 0)) (fg_tup (n := 4) rfl (fgs_cons (fg_name (pg_name (i := 1) sc_law_can.nd rfl (by first | exact Or.inl rfl | exact Or.inr rfl))) (fgs_cons (fg_name (pg_name (i := 2) sc_law_can.nd rfl (by first | exact Or.inl rfl | exact Or.inr rfl))) (fgs_cons (fg_name (pg_name (i := 3) sc_law_can.nd rfl (by first | exact Or.inl rfl | exact Or.inr rfl))) (fgs_cons (fg_name (pg_name (i := 4) sc_law_can.nd rfl (by first | exact Or.inl rfl | exact Or.inr rfl))) fgs_nil))))))
      (fss_cons (fs_if (ft_cmp o_is (fk_of (fe_var 3 (pv 3))) (fk_of fe_non) (by rfl)) (fss_one (fs_ret (fe_new (fn_lst hM fa_nil)))) fss_nil)
      (fss_one (fs_ret (fe_new (fn_lc hM hW rfl sc_law_can.nd (FI.zero (fi_tup (fe_ix o_ix (fk_of (fe_var 1 (pv 1))) (fk_of (fe_var 3 (pv 3))) (fun _ _ => rfl)))) (blkOk_by (own := [("_law_card", 5)]) (N := N_law_can) (sc := defScope s_law_can) (by decide +kernel)) (fun _ _ _ _ _ => (fg_name (pg_name (i := 5) sc_law_can.nd rfl (by first | exact Or.inl rfl | exact Or.inr rfl)))) (fun _ _ _ _ _ => (fts_one (ft_cmp o_le (fk_of (fe_cal C_law_sum hr (by decide) (by rfl) (fa_cons (fe_op (o_add hM) (fk_of (fe_var 2 (pv 2))) (fk_of (fe_tup hM (fa_cons (fe_var 5 (pv 5)) fa_nil)))) fa_nil))) (fk_of fe_int) (by rfl)))) (fun _ _ _ _ _ => (fe_var 5 (pv 5)))))))))
abbrev s_law_lay : Stmt := topS 42
abbrev N_law_lay : List Str := ["_law_play_here", "_law_card", "_law_hands", "_law_pile", "_law_who", "_law_last", "_law_one", "_law_hand", "_law_had", "_law_turn"]
theorem sc_law_lay : FnScope N_law_lay ["_law_play_here", "_law_card"] (defScope s_law_lay) := ⟨rfl, rfl, rfl, by decide +kernel, rfl, by decide +kernel, by decide +kernel⟩
def B_law_lay : SF := (cSeq (cAsg (cV 0) (gT 4 (gC (gV 2) (gC (gV 3) (gC (gV 4) (gC (gV 5) gN))))))
  (cSeq (cAsg (cCall tupleD (cCons (cL (cLc (cItT (cV 2)) [7] (gV 7) cYes (cCall tupleD (cCons (cL (cLc (cItT (cV 7)) [6] (gV 6) (cT1 asB (c2 neD (cV 6) (cV 1))) (cV 6))) cNil)))) cNil)) (gV 2))
  (cSeq (cAsg (c2 addD (cV 3) (cTup (cCons (cV 1) cNil))) (gV 3))
  (cSeq (cAsg (c2 mulD (cL (chk 1000 (cCons (cTup (cCons (cV 4) (cCons (cCall F_law_gain (cArgs 1 (cCons (cV 3) cNil))) cNil))) cNil))) (cCall intD (cCons (c2 gtD (cCall F_law_gain (cArgs 1 (cCons (cV 3) cNil))) (cC (.int 0))) cNil))) (gV 8))
  (cSeq (cFor (cItT (cTup (cCons (c2 subD (cC (.int 1)) (cV 4)) (cCons (cV 4) cNil)))) (gV 9) (cIfS (cT1 asB (c2 neD (cCall F_law_can (cArgs 1 (cCons (cTup (cCons (cV 2) (cCons (cV 3) (cCons (cV 9) (cCons (cV 4) cNil))))) cNil))) (cL (chk 1000 cNil)))) (cRet (cTup (cCons (cTup (cCons (cV 2) (cCons (cV 3) (cCons (cV 9) (cCons (cV 4) cNil))))) (cCons (cV 8) cNil)))) cNext))
  (cSeq (cIfS (cT1 asB (c2 ltD (cCall F_law_sum (cArgs 1 (cCons (cV 3) cNil))) (cC (.int 31)))) (cAsg (c2 addD (cV 8) (cL (chk 1000 (cCons (cTup (cCons (cV 4) (cCons (cC (.int 1)) cNil))) cNil)))) (gV 8)) cNext)
  (cSeq (cAsg (c2 ixD (cL (chk 1000 (cCons (c2 subD (cC (.int 1)) (cV 4)) (cCons (cV 4) cNil)))) (cCall intD (cCons (c2 eqD (c2 ixD (cV 2) (c2 subD (cC (.int 1)) (cV 4))) (cTup cNil)) cNil))) (gV 9))
  (cSeq (cIfS (cT1 asB (c2 eqD (c2 ixD (cV 2) (cV 9)) (cTup cNil))) (cAsg (cC .none) (gV 9)) cNext)
  (cRet (cTup (cCons (cTup (cCons (cV 2) (cCons (cTup cNil) (cCons (cV 9) (cCons (cC .none) cNil))))) (cCons (cV 8) cNil))))))))))))
@[irreducible] def F_law_lay : List D → Option D := runF 10 (B_law_lay)
theorem F_law_lay_def : F_law_lay = runF 10 (B_law_lay) := by unfold F_law_lay; rfl
theorem ok_law_lay {fi : Addr} {fdi : FuncData} (hM : MemOk (memV P w vf C S)) (hW : MemW (memV P w vf C S)) (hB : Bt mg) (cl_V : L2.Cls K C) (na_V : L2.NoAttr K C "known") (mk_V : L2.Mk K C fi) (F_init : FnOk P w K mg base CX0 1 fi fdi ["self"] (spInit P w C)) (b_init : L2.Binds K fdi ["self"] []) (m_V : mg "Values" = some (.ref C)) (C_law_gain : Cal P w K mg base (memV P w vf C S) "_law_gain" 4 1 F_law_gain) (C_law_can : Cal P w K mg base (memV P w vf C S) "_law_can" 4 1 F_law_can) (C_law_sum : Cal P w K mg base (memV P w vf C S) "_law_sum" 3 1 F_law_sum) {f : Addr} {fd : FuncData} (Fn : Fun K "_law_lay" "_law_lay" s_law_lay f fd) : FnOk P w K mg base CX0 5 f fd ["_law_play_here", "_law_card"] (spF K (memV P w vf C S) 2 (F_law_lay)) :=
  F_law_lay_def ▸ fun_ok Fn sc_law_lay fun cdv A outer s H E hr => (fss_cons (fs_asg (fe_var 0 (pv 0)) (fg_tup (n := 4) rfl (fgs_cons (fg_name (pg_name (i := 2) sc_law_lay.nd rfl (by first | exact Or.inl rfl | exact Or.inr rfl))) (fgs_cons (fg_name (pg_name (i := 3) sc_law_lay.nd rfl (by first | exact Or.inl rfl | exact Or.inr rfl))) (fgs_cons (fg_name (pg_name (i := 4) sc_law_lay.nd rfl (by first | exact Or.inl rfl | exact Or.inr rfl))) (fgs_cons (fg_name (pg_name (i := 5) sc_law_lay.nd rfl (by first | exact Or.inl rfl | exact Or.inr rfl))) fgs_nil))))))
      (fss_cons (fs_set (ps_set (i := 2) sc_law_lay.nd rfl (by first | exact Or.inl rfl | exact Or.inr rfl) (fe_callTy (c_tuple hM) (by rfl) hB.tuple (by rfl) (fak_cons (fk_of (fe_new (fn_lc hM hW rfl sc_law_lay.nd (FI.zero (fi_tup (fe_var 2 (pv 2)))) (blkOk_by (own := [("_law_hand", 7)]) (N := N_law_lay) (sc := defScope s_law_lay) (by decide +kernel)) (fun _ _ _ _ _ => (fg_name (pg_name (i := 7) sc_law_lay.nd rfl (by first | exact Or.inl rfl | exact Or.inr rfl)))) (fun _ _ _ _ _ => fts_nil) (fun _ _ _ _ _ => (fe_callTy (c_tuple hM) (by rfl) hB.tuple (by rfl) (fak_cons (fk_of (fe_new (fn_lc hM hW rfl sc_law_lay.nd (FI.zero (fi_tup (fe_var 7 (pv 7)))) (blkOk_by (own := [("_law_one", 6)]) (by kernel_rfl)) (fun _ _ _ _ _ => (fg_name (pg_name (i := 6) sc_law_lay.nd rfl (by first | exact Or.inl rfl | exact Or.inr rfl)))) (fun _ _ _ _ _ => (fts_one (ft_cmp (o_ne (u64 hr)) (fk_of (fe_var 6 (pv 6))) (fk_of (fe_var 1 (pv 1))) (by rfl)))) (fun _ _ _ _ _ => (fe_var 6 (pv 6)))))) fak_nil)))))) fak_nil))))
      (fss_cons (fs_set (ps_set (i := 3) sc_law_lay.nd rfl (by first | exact Or.inl rfl | exact Or.inr rfl) (fe_op (o_add hM) (fk_of (fe_var 3 (pv 3))) (fk_of (fe_tup hM (fa_cons (fe_var 1 (pv 1)) fa_nil))))))
      (fss_cons (fs_set (ps_set (i := 8) sc_law_lay.nd rfl (by first | exact Or.inl rfl | exact Or.inr rfl) (fe_op (o_mul hM) (fk_of (fe_new (fn_lst hM (fa_cons (fe_tup hM (fa_cons (fe_var 4 (pv 4)) (fa_cons (fe_cal C_law_gain hr (by decide) (by rfl) (fa_cons (fe_var 3 (pv 3)) fa_nil)) fa_nil))) fa_nil)))) (fk_of (fe_callTy c_int (by rfl) hB.int (by rfl) (fak_cons (fk_of (fe_cmp o_gt (fk_of (fe_cal C_law_gain hr (by decide) (by rfl) (fa_cons (fe_var 3 (pv 3)) fa_nil))) (fk_of fe_int) (by rfl))) fak_nil))))))
      (fss_cons (fs_for PassesOwn.never rfl (fi_tup (fe_tup hM (fa_cons (fe_op o_sub (fk_of fe_int) (fk_of (fe_var 4 (pv 4)))) (fa_cons (fe_var 4 (pv 4)) fa_nil)))) (fg_name (pg_name (i := 9) sc_law_lay.nd rfl (by first | exact Or.inl rfl | exact Or.inr rfl))) (fss_one (fs_if (ft_cmp (o_ne (u64 hr)) (fk_of (fe_cal C_law_can hr (by decide) (by rfl) (fa_cons (fe_tup hM (fa_cons (fe_var 2 (pv 2)) (fa_cons (fe_var 3 (pv 3)) (fa_cons (fe_var 9 (pv 9)) (fa_cons (fe_var 4 (pv 4)) fa_nil))))) fa_nil))) (fk_of (fe_new (fn_lst hM fa_nil))) (by rfl)) (fss_one (fs_ret (fe_tup hM (fa_cons (fe_tup hM (fa_cons (fe_var 2 (pv 2)) (fa_cons (fe_var 3 (pv 3)) (fa_cons (fe_var 9 (pv 9)) (fa_cons (fe_var 4 (pv 4)) fa_nil))))) (fa_cons (fe_var 8 (pv 8)) fa_nil))))) fss_nil)))
      (fss_cons (fs_if (ft_cmp o_lt (fk_of (fe_cal C_law_sum hr (by decide) (by rfl) (fa_cons (fe_var 3 (pv 3)) fa_nil))) (fk_of fe_int) (by rfl)) (fss_one (fs_set (ps_set (i := 8) sc_law_lay.nd rfl (by first | exact Or.inl rfl | exact Or.inr rfl) (fe_op (o_add hM) (fk_of (fe_var 8 (pv 8))) (fk_of (fe_new (fn_lst hM (fa_cons (fe_tup hM (fa_cons (fe_var 4 (pv 4)) (fa_cons fe_int fa_nil))) fa_nil)))))))) fss_nil)
      (fss_cons (fs_set (ps_set (i := 9) sc_law_lay.nd rfl (by first | exact Or.inl rfl | exact Or.inr rfl) (fe_ix o_ix (fk_of (fe_new (fn_lst hM (fa_cons (fe_op o_sub (fk_of fe_int) (fk_of (fe_var 4 (pv 4)))) (fa_cons (fe_var 4 (pv 4)) fa_nil))))) (fk_of (fe_callTy c_int (by rfl) hB.int (by rfl) (fak_cons (fk_of (fe_cmp (o_eq (u64 hr)) (fk_of (fe_ix o_ix (fk_of (fe_var 2 (pv 2))) (fk_of (fe_op o_sub (fk_of fe_int) (fk_of (fe_var 4 (pv 4))))) (fun _ _ => rfl))) (fk_of (fe_tup hM fa_nil)) (by rfl))) fak_nil))) (fun _ _ => rfl))))
      (fss_cons (fs_if (ft_cmp (o_eq (u64 hr)) (fk_of (fe_ix o_ix (fk_of (fe_var 2 (pv 2))) (fk_of (fe_var 9 (pv 9))) (fun _ _ => rfl))) (fk_of (fe_tup hM fa_nil)) (by rfl)) (fss_one (fs_set (ps_set (i := 9) sc_law_lay.nd rfl (by first | exact Or.inl rfl | exact Or.inr rfl) fe_non))) fss_nil)
      (fss_one (fs_ret (fe_tup hM (fa_cons (fe_tup hM (fa_cons (fe_var 2 (pv 2)) (fa_cons (fe_tup hM fa_nil) (fa_cons (fe_var 9 (pv 9)) (fa_cons fe_non fa_nil))))) (fa_cons (fe_var 8 (pv 8)) fa_nil)))))))))))))
abbrev s_law_begin : Stmt := topS 43
abbrev N_law_begin : List Str := ["_law_one", "_law_other", "_law_turn", "_law_hands"]
theorem sc_law_begin : FnScope N_law_begin ["_law_one", "_law_other", "_law_turn"] (defScope s_law_begin) := ⟨rfl, rfl, rfl, by decide +kernel, rfl, by decide +kernel, by decide +kernel⟩
def B_law_begin : SF := (cSeq (cAsg (cTup (cCons (cCall tupleD (cCons (cCall sortedD (cCons (cV 0) cNil)) cNil)) (cCons (cCall tupleD (cCons (cCall sortedD (cCons (cV 1) cNil)) cNil)) cNil))) (gV 3))
  (cSeq (cIfS (cT1 asB (c2 eqD (c2 ixD (cV 3) (cV 2)) (cTup cNil))) (cAsg (c2 subD (cC (.int 1)) (cV 2)) (gV 2)) cNext)
  (cRet (cTup (cCons (cV 3) (cCons (cTup cNil) (cCons (c2 ixD (cL (chk 1000 (cCons (cV 2) (cCons (cC .none) cNil)))) (cCall intD (cCons (c2 eqD (c2 ixD (cV 3) (cV 2)) (cTup cNil)) cNil))) (cCons (cC .none) cNil))))))))
@[irreducible] def F_law_begin : List D → Option D := runF 4 (B_law_begin)
theorem F_law_begin_def : F_law_begin = runF 4 (B_law_begin) := by unfold F_law_begin; rfl
theorem ok_law_begin {fi : Addr} {fdi : FuncData} (hM : MemOk (memV P w vf C S)) (hW : MemW (memV P w vf C S)) (hB : Bt mg) (cl_V : L2.Cls K C) (na_V : L2.NoAttr K C "known") (mk_V : L2.Mk K C fi) (F_init : FnOk P w K mg base CX0 1 fi fdi ["self"] (spInit P w C)) (b_init : L2.Binds K fdi ["self"] []) (m_V : mg "Values" = some (.ref C)) {f : Addr} {fd : FuncData} (Fn : Fun K "_law_begin" "_law_begin" s_law_begin f fd) : FnOk P w K mg base CX0 3 f fd ["_law_one", "_law_other", "_law_turn"] (spF K (memV P w vf C S) 3 (F_law_begin)) :=
  F_law_begin_def ▸ fun_ok Fn sc_law_begin fun cdv A outer s H E hr => (fss_cons (fs_set (ps_set (i := 3) sc_law_begin.nd rfl (by first | exact Or.inl rfl | exact Or.inr rfl) (fe_tup hM (fa_cons (fe_callTy (c_tuple hM) (by rfl) hB.tuple (by rfl) (fak_cons (fk_of (fe_callB (c_sorted hM rfl (u65 hr)) (by rfl) hB.sorted (by rfl) (fak_cons (fk_of (fe_var 0 (pv 0))) fak_nil))) fak_nil)) (fa_cons (fe_callTy (c_tuple hM) (by rfl) hB.tuple (by rfl) (fak_cons (fk_of (fe_callB (c_sorted hM rfl (u65 hr)) (by rfl) hB.sorted (by rfl) (fak_cons (fk_of (fe_var 1 (pv 1))) fak_nil))) fak_nil)) fa_nil)))))
      (fss_cons (fs_if (ft_cmp (o_eq (u64 hr)) (fk_of (fe_ix o_ix (fk_of (fe_var 3 (pv 3))) (fk_of (fe_var 2 (pv 2))) (fun _ _ => rfl))) (fk_of (fe_tup hM fa_nil)) (by rfl)) (fss_one (fs_set (ps_set (i := 2) sc_law_begin.nd rfl (by first | exact Or.inl rfl | exact Or.inr rfl) (fe_op o_sub (fk_of fe_int) (fk_of (fe_var 2 (pv 2))))))) fss_nil)
      (fss_one (fs_ret (fe_tup hM (fa_cons (fe_var 3 (pv 3)) (fa_cons (fe_tup hM fa_nil) (fa_cons (fe_ix o_ix (fk_of (fe_new (fn_lst hM (fa_cons (fe_var 2 (pv 2)) (fa_cons fe_non fa_nil))))) (fk_of (fe_callTy c_int (by rfl) hB.int (by rfl) (fak_cons (fk_of (fe_cmp (o_eq (u64 hr)) (fk_of (fe_ix o_ix (fk_of (fe_var 3 (pv 3))) (fk_of (fe_var 2 (pv 2))) (fun _ _ => rfl))) (fk_of (fe_tup hM fa_nil)) (by rfl))) fak_nil))) (fun _ _ => rfl)) (fa_cons fe_non fa_nil)))))))))
abbrev s_law_value : Stmt := topS 44
abbrev N_law_value : List Str := ["_law_play_here", "_law_known", "_law_some", "_law_card", "_law_new", "_law_had", "_law_who", "_law_more"]
theorem sc_law_value : FnScope N_law_value ["_law_play_here", "_law_known"] (defScope s_law_value) := ⟨rfl, rfl, rfl, by decide +kernel, rfl, by decide +kernel, by decide +kernel⟩
noncomputable def B_law_value (vf : NestedKey → Int) (S : List NestedKey) (g0 : List D → Option D) : SF := (cSeq (cIfS (cT1 asB (c2 isD (c2 ixD (cV 0) (cC (.int 2))) (cC .none))) (cRet (cC (.int 0))) cNext)
  (cMemo vf S 0 (cV 1) (mbCons (cOwn 2 (chk 1000 cNil))
  (mbCons (cFor (cIt (cCall F_law_can (cArgs 1 (cCons (cV 0) cNil)))) (gV 3) (cSeq (cAsg (cCall F_law_lay (cArgs 2 (cCons (cV 0) (cCons (cV 3) cNil)))) (gT 2 (gC (gV 4) (gC (gV 5) gN))))
  (cApp 2 (c2 addD (cCall sumD (cCons (cL (cLc (cIt (cV 5)) [6, 7] (gT 2 (gC (gV 6) (gC (gV 7) gN))) cYes (c2 mulD (cV 7) (c2 subD (cC (.int 1)) (c2 mulD (cC (.int 2)) (cV 6)))))) cNil)) (cCall g0 (cArgs 2 (cCons (cV 4) (cCons (cV 1) cNil))))))))
  (mbCons (cFrz 2) (mbLast (c2 ixD (cL (chk 1000 (cCons (cCall maxD (cCons (cV 2) cNil)) (cCons (cCall minD (cCons (cV 2) cNil)) cNil)))) (c2 ixD (cV 0) (cC (.int 2))))))))))
theorem okB_law_value {fi : Addr} {fdi : FuncData} {ℓ : Nat} (hl : 7 ≤ ℓ) {g0 : List D → Option D} (hM : MemOk (memV P w vf C S)) (hW : MemW (memV P w vf C S)) (hB : Bt mg) (cl_V : L2.Cls K C) (na_V : L2.NoAttr K C "known") (mk_V : L2.Mk K C fi) (F_init : FnOk P w K mg base CX0 1 fi fdi ["self"] (spInit P w C)) (b_init : L2.Binds K fdi ["self"] []) (m_V : mg "Values" = some (.ref C)) (C_law_can : Cal P w K mg base (memV P w vf C S) "_law_can" 4 1 F_law_can) (C_law_lay : Cal P w K mg base (memV P w vf C S) "_law_lay" 5 2 F_law_lay) (C_law_value : Cal P w K mg base (memV P w vf C S) "_law_value" ℓ 2 g0) {f : Addr} {fd : FuncData} (Fn : Fun K "_law_value" "_law_value" s_law_value f fd) : FnOk P w K mg base CX0 (ℓ + 1) f fd ["_law_play_here", "_law_known"] (spF K (memV P w vf C S) 2 (runF 8 (B_law_value vf S g0))) :=
  fun_ok Fn sc_law_value fun cdv A outer s H E hr => (fss_cons (fs_if (ft_cmp o_is (fk_of (fe_ix o_ix (fk_of (fe_var 0 (pv 0))) (fk_of fe_int) (fun _ _ => rfl))) (fk_of fe_non) (by rfl)) (fss_one (fs_ret fe_int)) fss_nil)
      (fss_memo (u65 hr) (mref_slot 1) (pv 0) (pe_mslot (pv 1)) (fmb_cons (own_of (ps_set (i := 2) sc_law_value.nd rfl (by first | exact Or.inl rfl | exact Or.inr rfl) (fn_lst hM fa_nil)))
      (fmb_cons (fs_for PassesOwn.never rfl (fi_list (fe_cal C_law_can hr (Nat.le_trans (by decide) hl) (by rfl) (fa_cons (fe_var 0 (pv 0)) fa_nil))) (fg_name (pg_name (i := 3) sc_law_value.nd rfl (by first | exact Or.inl rfl | exact Or.inr rfl))) (fss_cons (fs_asg (fe_cal C_law_lay hr (Nat.le_trans (by decide) hl) (by rfl) (fa_cons (fe_var 0 (pv 0)) (fa_cons (fe_var 3 (pv 3)) fa_nil))) (fg_tup (n := 2) rfl (fgs_cons (fg_name (pg_name (i := 4) sc_law_value.nd rfl (by first | exact Or.inl rfl | exact Or.inr rfl))) (fgs_cons (fg_name (pg_name (i := 5) sc_law_value.nd rfl (by first | exact Or.inl rfl | exact Or.inr rfl))) fgs_nil))))
      (fss_one (fs_app (te := tVar 2) hM hW (ps_expr (pe_bm PySem.F.plainAttrs_list PySem.F.slot_list_append PySem.F.type_list_append mt_append (pv 2) (fa_cons (fe_op (o_add hM) (fk_of (fe_callB (c_sum rfl) (by rfl) hB.sum (by rfl) (fak_cons (fk_of (fe_new (fn_lc hM hW rfl sc_law_value.nd (FI.zero (fi_list (fe_var 5 (pv 5)))) (blkOk_by (own := [("_law_who", 6), ("_law_more", 7)]) (N := N_law_value) (sc := defScope s_law_value) (by decide +kernel)) (fun _ _ _ _ _ => (fg_tup (n := 2) rfl (fgs_cons (fg_name (pg_name (i := 6) sc_law_value.nd rfl (by first | exact Or.inl rfl | exact Or.inr rfl))) (fgs_cons (fg_name (pg_name (i := 7) sc_law_value.nd rfl (by first | exact Or.inl rfl | exact Or.inr rfl))) fgs_nil)))) (fun _ _ _ _ _ => fts_nil) (fun _ _ _ _ _ => (fe_op (o_mul hM) (fk_of (fe_var 7 (pv 7))) (fk_of (fe_op o_sub (fk_of fe_int) (fk_of (fe_op (o_mul hM) (fk_of fe_int) (fk_of (fe_var 6 (pv 6)))))))))))) fak_nil))) (fk_of (fe_cal C_law_value hr (Nat.le_refl _) (by rfl) (fa_cons (fe_var 4 (pv 4)) (fa_cons (fe_var 1 (pv 1)) fa_nil))))) fa_nil)))))))
      (fmb_frz 2 (fmb_last (mref_slot 1) (ps_asg (fe_ix o_ix (fk_of (fe_new (fn_lst hM (fa_cons (fe_callB (c_max rfl (u65 hr)) (by rfl) hB.max (by rfl) (fak_cons (fk_of (fe_var 2 (pv 2))) fak_nil)) (fa_cons (fe_callB (c_min rfl (u65 hr)) (by rfl) hB.min (by rfl) (fak_cons (fk_of (fe_var 2 (pv 2))) fak_nil)) fa_nil))))) (fk_of (fe_ix o_ix (fk_of (fe_var 0 (pv 0))) (fk_of fe_int) (fun _ _ => rfl))) (fun _ _ => rfl)) (pg_sub (pe_mslot (pv 1)) (pv 0) (set_mem (u65 hr)))))))) (pv 0) (pe_mslot (pv 1)) (fun _ _ => rfl)))
noncomputable def RC2 (vf : NestedKey → Int) (S : List NestedKey) : Nat → Nat → List D → Option D
  | 0, _ => fun _ => none
  | n + 1, j => match j with
    | 0 => runF 8 (B_law_value vf S (RC2 vf S n 0))
    | _ => fun _ => none
theorem rc_ok2 {fi : Addr} {fdi : FuncData} (hM : MemOk (memV P w vf C S)) (hW : MemW (memV P w vf C S)) (hB : Bt mg) (cl_V : L2.Cls K C) (na_V : L2.NoAttr K C "known") (mk_V : L2.Mk K C fi) (F_init : FnOk P w K mg base CX0 1 fi fdi ["self"] (spInit P w C)) (b_init : L2.Binds K fdi ["self"] []) (m_V : mg "Values" = some (.ref C)) (C_law_can : Cal P w K mg base (memV P w vf C S) "_law_can" 4 1 F_law_can) (C_law_lay : Cal P w K mg base (memV P w vf C S) "_law_lay" 5 2 F_law_lay) {f0 : Addr} {fd0 : FuncData} (Fn0 : Fun K "_law_value" "_law_value" s_law_value f0 fd0) (bi0 : L2.Binds K fd0 ["_law_play_here", "_law_known"] []) (me0 : mg "_law_value" = some (.ref f0)) : ∀ n, Cal P w K mg base (memV P w vf C S) "_law_value" (7 + n) 2 (RC2 vf S n 0)
  | 0 => ⟨f0, fd0, _, me0, Fn0.kp, bi0, fnok_none rfl⟩
  | n + 1 => by
    have ih := rc_ok2 hM hW hB cl_V na_V mk_V F_init b_init m_V C_law_can C_law_lay Fn0 bi0 me0 n
    have h0 := ih
    exact ⟨f0, fd0, _, me0, Fn0.kp, bi0, okB_law_value (ℓ := 7 + n) (Nat.le_add_right _ _) hM hW hB cl_V na_V mk_V F_init b_init m_V C_law_can C_law_lay h0 Fn0⟩
abbrev s_law_play : Stmt := topS 45
abbrev N_law_play : List Str := ["_law_number", "_law_deal_here", "_law_cards", "_law_play_here", "_law_k"]
theorem sc_law_play : FnScope N_law_play ["_law_number", "_law_deal_here"] (defScope s_law_play) := ⟨rfl, rfl, rfl, by decide +kernel, rfl, by decide +kernel, by decide +kernel⟩
def B_law_play : SF := (cSeq (cAsg (cCall F_law_deal (cArgs 2 (cCons (cV 1) (cCons (cC (.int 8)) cNil)))) (gV 2))
  (cSeq (cAsg (cCall F_law_begin (cArgs 3 (cCons (cSl (cV 2) cNo (cPt (c2 modD (cV 0) (cC (.int 4))))) (cCons (cSl (cV 2) (cPt (cC (.int 4))) (cPt (c2 addD (cC (.int 4)) (c2 modD (c2 fdivD (cV 0) (cC (.int 4))) (cC (.int 4)))))) (cCons (c2 modD (c2 fdivD (cV 0) (cC (.int 16))) (cC (.int 2))) cNil))))) (gV 3))
  (cSeq (cFor (cRg1 (c2 modD (c2 fdivD (cV 0) (cC (.int 32))) (cC (.int 3)))) (gV 4) (cIfS (cT1 asB (c2 neD (cCall F_law_can (cArgs 1 (cCons (cV 3) cNil))) (cL (chk 1000 cNil)))) (cAsg (c2 ixD (cCall F_law_lay (cArgs 2 (cCons (cV 3) (cCons (c2 ixD (cCall F_law_can (cArgs 1 (cCons (cV 3) cNil))) (c2 modD (c2 fdivD (cV 0) (cC (.int 256))) (cCall lenD (cCons (cCall F_law_can (cArgs 1 (cCons (cV 3) cNil))) cNil)))) cNil)))) (cC (.int 0))) (gV 3)) cNext))
  (cRet (cV 3)))))
@[irreducible] def F_law_play : List D → Option D := runF 5 (B_law_play)
theorem F_law_play_def : F_law_play = runF 5 (B_law_play) := by unfold F_law_play; rfl
theorem ok_law_play {fi : Addr} {fdi : FuncData} (hM : MemOk (memV P w vf C S)) (hW : MemW (memV P w vf C S)) (hB : Bt mg) (cl_V : L2.Cls K C) (na_V : L2.NoAttr K C "known") (mk_V : L2.Mk K C fi) (F_init : FnOk P w K mg base CX0 1 fi fdi ["self"] (spInit P w C)) (b_init : L2.Binds K fdi ["self"] []) (m_V : mg "Values" = some (.ref C)) (C_law_deal : Cal P w K mg base (memV P w vf C S) "_law_deal" 4 2 F_law_deal) (C_law_begin : Cal P w K mg base (memV P w vf C S) "_law_begin" 3 3 F_law_begin) (C_law_can : Cal P w K mg base (memV P w vf C S) "_law_can" 4 1 F_law_can) (C_law_lay : Cal P w K mg base (memV P w vf C S) "_law_lay" 5 2 F_law_lay) {f : Addr} {fd : FuncData} (Fn : Fun K "_law_play" "_law_play" s_law_play f fd) : FnOk P w K mg base CX0 6 f fd ["_law_number", "_law_deal_here"] (spF K (memV P w vf C S) 2 (F_law_play)) :=
  F_law_play_def ▸ fun_ok Fn sc_law_play fun cdv A outer s H E hr => (fss_cons (fs_set (ps_set (i := 2) sc_law_play.nd rfl (by first | exact Or.inl rfl | exact Or.inr rfl) (fe_cal C_law_deal hr (by decide) (by rfl) (fa_cons (fe_var 1 (pv 1)) (fa_cons fe_int fa_nil)))))
      (fss_cons (fs_set (ps_set (i := 3) sc_law_play.nd rfl (by first | exact Or.inl rfl | exact Or.inr rfl) (fe_cal C_law_begin hr (by decide) (by rfl) (fa_cons (fe_sl hM (fk_of (fe_var 2 (pv 2))) fo_none (fo_some (fe_op o_mod (fk_of (fe_var 0 (pv 0))) (fk_of fe_int)))) (fa_cons (fe_sl hM (fk_of (fe_var 2 (pv 2))) (fo_some fe_int) (fo_some (fe_op (o_add hM) (fk_of fe_int) (fk_of (fe_op o_mod (fk_of (fe_op o_fdiv (fk_of (fe_var 0 (pv 0))) (fk_of fe_int))) (fk_of fe_int)))))) (fa_cons (fe_op o_mod (fk_of (fe_op o_fdiv (fk_of (fe_var 0 (pv 0))) (fk_of fe_int))) (fk_of fe_int)) fa_nil))))))
      (fss_cons (fs_for PassesOwn.never rfl (fi_range1 (by rfl) hB.range (fe_op o_mod (fk_of (fe_op o_fdiv (fk_of (fe_var 0 (pv 0))) (fk_of fe_int))) (fk_of fe_int))) (fg_name (pg_name (i := 4) sc_law_play.nd rfl (by first | exact Or.inl rfl | exact Or.inr rfl))) (fss_one (fs_if (ft_cmp (o_ne (u64 hr)) (fk_of (fe_cal C_law_can hr (by decide) (by rfl) (fa_cons (fe_var 3 (pv 3)) fa_nil))) (fk_of (fe_new (fn_lst hM fa_nil))) (by rfl)) (fss_one (fs_set (ps_set (i := 3) sc_law_play.nd rfl (by first | exact Or.inl rfl | exact Or.inr rfl) (fe_ix o_ix (fk_of (fe_cal C_law_lay hr (by decide) (by rfl) (fa_cons (fe_var 3 (pv 3)) (fa_cons (fe_ix o_ix (fk_of (fe_cal C_law_can hr (by decide) (by rfl) (fa_cons (fe_var 3 (pv 3)) fa_nil))) (fk_of (fe_op o_mod (fk_of (fe_op o_fdiv (fk_of (fe_var 0 (pv 0))) (fk_of fe_int))) (fk_of (fe_callB c_len (by rfl) hB.len (by rfl) (fak_cons (fk_of (fe_cal C_law_can hr (by decide) (by rfl) (fa_cons (fe_var 3 (pv 3)) fa_nil))) fak_nil))))) (fun _ _ => rfl)) fa_nil)))) (fk_of fe_int) (fun _ _ => rfl))))) fss_nil)))
      (fss_one (fs_ret (fe_var 3 (pv 3)))))))
abbrev s_law_is_card : Stmt := topS 46
abbrev N_law_is_card : List Str := ["_law_thing", "_law_part"]
theorem sc_law_is_card : FnScope N_law_is_card ["_law_thing"] (defScope s_law_is_card) := ⟨rfl, rfl, rfl, by decide +kernel, rfl, by decide +kernel, by decide +kernel⟩
def B_law_is_card : SF := (cSeq (cIfS (cOr (cNot (cT1 asB (c1 (isiD "tuple") (cV 0)))) (cT1 asB (c2 neD (cCall lenD (cCons (cV 0) cNil)) (cC (.int 2))))) (cRet (cC (.bool false))) cNext)
  (cRet (c2 eqD (cL (cLc (cItT (cV 0)) [1] (gV 1) (cOr (cNot (cT1 asB (c1 (isiD "int") (cV 1)))) (cT1 asB (c1 (isiD "bool") (cV 1)))) (cV 1))) (cL (chk 1000 cNil)))))
@[irreducible] def F_law_is_card : List D → Option D := runF 2 (B_law_is_card)
theorem F_law_is_card_def : F_law_is_card = runF 2 (B_law_is_card) := by unfold F_law_is_card; rfl
theorem ok_law_is_card {fi : Addr} {fdi : FuncData} (hM : MemOk (memV P w vf C S)) (hW : MemW (memV P w vf C S)) (hB : Bt mg) (cl_V : L2.Cls K C) (na_V : L2.NoAttr K C "known") (mk_V : L2.Mk K C fi) (F_init : FnOk P w K mg base CX0 1 fi fdi ["self"] (spInit P w C)) (b_init : L2.Binds K fdi ["self"] []) (m_V : mg "Values" = some (.ref C)) {f : Addr} {fd : FuncData} (Fn : Fun K "_law_is_card" "_law_is_card" s_law_is_card f fd) : FnOk P w K mg base CX0 3 f fd ["_law_thing"] (spF K (memV P w vf C S) 1 (F_law_is_card)) :=
  F_law_is_card_def ▸ fun_ok Fn sc_law_is_card fun cdv A outer s H E hr => (fss_cons (fs_if (fw_pt (fw_or (ft_not (ft_val (fe_isi (Tn := "tuple") (by rfl) hB.isinstance (by rfl) hB.tuple (by rfl) (fk_of (fe_var 0 (pv 0)))))) (fw_or1 (ft_cmp (o_ne (u64 hr)) (fk_of (fe_callB c_len (by rfl) hB.len (by rfl) (fak_cons (fk_of (fe_var 0 (pv 0))) fak_nil))) (fk_of fe_int) (by rfl))))) (fss_one (fs_ret fe_bl)) fss_nil)
      (fss_one (fs_ret (fe_cmp (o_eq (u64 hr)) (fk_of (fe_new (fn_lc hM hW rfl sc_law_is_card.nd (FI.zero (fi_tup (fe_var 0 (pv 0)))) (blkOk_by (own := [("_law_part", 1)]) (N := N_law_is_card) (sc := defScope s_law_is_card) (by decide +kernel)) (fun _ _ _ _ _ => (fg_name (pg_name (i := 1) sc_law_is_card.nd rfl (by first | exact Or.inl rfl | exact Or.inr rfl)))) (fun _ _ _ _ _ => (fts_one (fw_pt (fw_or (ft_not (ft_val (fe_isi (Tn := "int") (by rfl) hB.isinstance (by rfl) hB.int (by rfl) (fk_of (fe_var 1 (pv 1)))))) (fw_or1 (ft_val (fe_isi (Tn := "bool") (by rfl) hB.isinstance (by rfl) hB.bool (by rfl) (fk_of (fe_var 1 (pv 1)))))))))) (fun _ _ _ _ _ => (fe_var 1 (pv 1)))))) (fk_of (fe_new (fn_lst hM fa_nil))) (by rfl)))))
abbrev s_law_is_pair : Stmt := topS 47
abbrev N_law_is_pair : List Str := ["_law_play_here", "_law_who", "_law_least", "_law_thing", "_law_new", "_law_had", "_law_its", "_law_more"]
theorem sc_law_is_pair : FnScope N_law_is_pair ["_law_play_here", "_law_who", "_law_least", "_law_thing"] (defScope s_law_is_pair) := ⟨rfl, rfl, rfl, by decide +kernel, rfl, by decide +kernel, by decide +kernel⟩
noncomputable def B_law_is_pair (vf : NestedKey → Int) (S : List NestedKey) (g0 g1 : List D → Option D) : SF := (cSeq (cIfS (cOr (cNot (cT1 asB (c1 (isiD "tuple") (cV 3)))) (cOr (cT1 asB (c2 neD (cCall lenD (cCons (cV 3) cNil)) (cC (.int 2)))) (cNot (cT1 asB (cCall F_law_is_card (cArgs 1 (cCons (c2 ixD (cV 3) (cC (.int 0))) cNil))))))) (cRet (cC (.bool false))) cNext)
  (cSeq (cIfS (cT1 asB (c2 ninD (c2 ixD (cV 3) (cC (.int 0))) (cCall F_law_can (cArgs 1 (cCons (cV 0) cNil))))) (cRet (cC (.bool false))) cNext)
  (cSeq (cAsg (cCall F_law_lay (cArgs 2 (cCons (cV 0) (cCons (c2 ixD (cV 3) (cC (.int 0))) cNil)))) (gT 2 (gC (gV 4) (gC (gV 5) gN))))
  (cRet (cCall g1 (cArgs 4 (cCons (cV 4) (cCons (cV 1) (cCons (c2 subD (cV 2) (cCall sumD (cCons (cL (cLc (cIt (cV 5)) [6, 7] (gT 2 (gC (gV 6) (gC (gV 7) gN))) cYes (c2 mulD (cV 7) (c2 ixD (cL (chk 1000 (cCons (c1 negD (cC (.int 1))) (cCons (cC (.int 1)) cNil)))) (cCall intD (cCons (c2 eqD (cV 6) (cV 1)) cNil)))))) cNil))) (cCons (c2 ixD (cV 3) (cC (.int 1))) cNil))))))))))
theorem okB_law_is_pair {fi : Addr} {fdi : FuncData} {ℓ : Nat} (hl : 7 ≤ ℓ) {g0 g1 : List D → Option D} (hM : MemOk (memV P w vf C S)) (hW : MemW (memV P w vf C S)) (hB : Bt mg) (cl_V : L2.Cls K C) (na_V : L2.NoAttr K C "known") (mk_V : L2.Mk K C fi) (F_init : FnOk P w K mg base CX0 1 fi fdi ["self"] (spInit P w C)) (b_init : L2.Binds K fdi ["self"] []) (m_V : mg "Values" = some (.ref C)) (C_law_is_card : Cal P w K mg base (memV P w vf C S) "_law_is_card" 3 1 F_law_is_card) (C_law_can : Cal P w K mg base (memV P w vf C S) "_law_can" 4 1 F_law_can) (C_law_lay : Cal P w K mg base (memV P w vf C S) "_law_lay" 5 2 F_law_lay) (C_law_is_paper : Cal P w K mg base (memV P w vf C S) "_law_is_paper" ℓ 4 g1) {f : Addr} {fd : FuncData} (Fn : Fun K "_law_is_pair" "_law_is_pair" s_law_is_pair f fd) : FnOk P w K mg base CX0 (ℓ + 1) f fd ["_law_play_here", "_law_who", "_law_least", "_law_thing"] (spF K (memV P w vf C S) 4 (runF 8 (B_law_is_pair vf S g0 g1))) :=
  fun_ok Fn sc_law_is_pair fun cdv A outer s H E hr => (fss_cons (fs_if (fw_pt (fw_or (ft_not (ft_val (fe_isi (Tn := "tuple") (by rfl) hB.isinstance (by rfl) hB.tuple (by rfl) (fk_of (fe_var 3 (pv 3)))))) (fw_or (ft_cmp (o_ne (u64 hr)) (fk_of (fe_callB c_len (by rfl) hB.len (by rfl) (fak_cons (fk_of (fe_var 3 (pv 3))) fak_nil))) (fk_of fe_int) (by rfl)) (fw_or1 (ft_not (ft_val (fe_cal C_law_is_card hr (Nat.le_trans (by decide) hl) (by rfl) (fa_cons (fe_ix o_ix (fk_of (fe_var 3 (pv 3))) (fk_of fe_int) (fun _ _ => rfl)) fa_nil)))))))) (fss_one (fs_ret fe_bl)) fss_nil)
      (fss_cons (fs_if (ft_cmp (o_nin (u65 hr)) (fk_of (fe_ix o_ix (fk_of (fe_var 3 (pv 3))) (fk_of fe_int) (fun _ _ => rfl))) (fk_of (fe_cal C_law_can hr (Nat.le_trans (by decide) hl) (by rfl) (fa_cons (fe_var 0 (pv 0)) fa_nil))) (by rfl)) (fss_one (fs_ret fe_bl)) fss_nil)
      (fss_cons (fs_asg (fe_cal C_law_lay hr (Nat.le_trans (by decide) hl) (by rfl) (fa_cons (fe_var 0 (pv 0)) (fa_cons (fe_ix o_ix (fk_of (fe_var 3 (pv 3))) (fk_of fe_int) (fun _ _ => rfl)) fa_nil))) (fg_tup (n := 2) rfl (fgs_cons (fg_name (pg_name (i := 4) sc_law_is_pair.nd rfl (by first | exact Or.inl rfl | exact Or.inr rfl))) (fgs_cons (fg_name (pg_name (i := 5) sc_law_is_pair.nd rfl (by first | exact Or.inl rfl | exact Or.inr rfl))) fgs_nil))))
      (fss_one (fs_ret (fe_cal C_law_is_paper hr (Nat.le_refl _) (by rfl) (fa_cons (fe_var 4 (pv 4)) (fa_cons (fe_var 1 (pv 1)) (fa_cons (fe_op o_sub (fk_of (fe_var 2 (pv 2))) (fk_of (fe_callB (c_sum rfl) (by rfl) hB.sum (by rfl) (fak_cons (fk_of (fe_new (fn_lc hM hW rfl sc_law_is_pair.nd (FI.zero (fi_list (fe_var 5 (pv 5)))) (blkOk_by (own := [("_law_its", 6), ("_law_more", 7)]) (N := N_law_is_pair) (sc := defScope s_law_is_pair) (by decide +kernel)) (fun _ _ _ _ _ => (fg_tup (n := 2) rfl (fgs_cons (fg_name (pg_name (i := 6) sc_law_is_pair.nd rfl (by first | exact Or.inl rfl | exact Or.inr rfl))) (fgs_cons (fg_name (pg_name (i := 7) sc_law_is_pair.nd rfl (by first | exact Or.inl rfl | exact Or.inr rfl))) fgs_nil)))) (fun _ _ _ _ _ => fts_nil) (fun _ _ _ _ _ => (fe_op (o_mul hM) (fk_of (fe_var 7 (pv 7))) (fk_of (fe_ix o_ix (fk_of (fe_new (fn_lst hM (fa_cons (fe_un o_neg (fk_of fe_int)) (fa_cons fe_int fa_nil))))) (fk_of (fe_callTy c_int (by rfl) hB.int (by rfl) (fak_cons (fk_of (fe_cmp (o_eq (u64 hr)) (fk_of (fe_var 6 (pv 6))) (fk_of (fe_var 1 (pv 1))) (by rfl))) fak_nil))) (fun _ _ => rfl)))))))) fak_nil)))) (fa_cons (fe_ix o_ix (fk_of (fe_var 3 (pv 3))) (fk_of fe_int) (fun _ _ => rfl)) fa_nil))))))))))
abbrev s_law_is_paper : Stmt := topS 48
abbrev N_law_is_paper : List Str := ["_law_play_here", "_law_who", "_law_least", "_law_thing", "_law_some", "_law_card", "_law_part"]
theorem sc_law_is_paper : FnScope N_law_is_paper ["_law_play_here", "_law_who", "_law_least", "_law_thing"] (defScope s_law_is_paper) := ⟨rfl, rfl, rfl, by decide +kernel, rfl, by decide +kernel, by decide +kernel⟩
noncomputable def B_law_is_paper (vf : NestedKey → Int) (S : List NestedKey) (g0 g1 : List D → Option D) : SF := (cSeq (cIfS (cNot (cT1 asB (c1 (isiD "tuple") (cV 3)))) (cRet (cC (.bool false))) cNext)
  (cSeq (cIfS (cT1 asB (c2 isD (c2 ixD (cV 0) (cC (.int 2))) (cC .none))) (cRet (cAndV (c2 eqD (cV 3) (cTup cNil)) (c2 leD (cV 2) (cC (.int 0))))) cNext)
  (cSeq (cIfS (cT1 asB (c2 eqD (c2 ixD (cV 0) (cC (.int 2))) (cV 1))) (cRet (cCall g0 (cArgs 4 (cCons (cV 0) (cCons (cV 1) (cCons (cV 2) (cCons (cV 3) cNil))))))) cNext)
  (cSeq (cAsg (cCall F_law_can (cArgs 1 (cCons (cV 0) cNil))) (gV 4))
  (cSeq (cIfS (cT1 asB (c2 neD (cCall lenD (cCons (cV 3) cNil)) (cCall lenD (cCons (cV 4) cNil)))) (cRet (cC (.bool false))) cNext)
  (cSeq (cFor (cZipLT (cCons (cV 4) (cCons (cV 3) cNil))) (gT 2 (gC (gV 5) (gC (gV 6) gN))) (cIfS (cOr (cNot (cT1 asB (cCall g0 (cArgs 4 (cCons (cV 0) (cCons (cV 1) (cCons (cV 2) (cCons (cV 6) cNil)))))))) (cT1 asB (c2 neD (c2 ixD (cV 6) (cC (.int 0))) (cV 5)))) (cRet (cC (.bool false))) cNext))
  (cRet (cC (.bool true)))))))))
theorem okB_law_is_paper {fi : Addr} {fdi : FuncData} {ℓ : Nat} (hl : 7 ≤ ℓ) {g0 g1 : List D → Option D} (hM : MemOk (memV P w vf C S)) (hW : MemW (memV P w vf C S)) (hB : Bt mg) (cl_V : L2.Cls K C) (na_V : L2.NoAttr K C "known") (mk_V : L2.Mk K C fi) (F_init : FnOk P w K mg base CX0 1 fi fdi ["self"] (spInit P w C)) (b_init : L2.Binds K fdi ["self"] []) (m_V : mg "Values" = some (.ref C)) (C_law_can : Cal P w K mg base (memV P w vf C S) "_law_can" 4 1 F_law_can) (C_law_is_pair : Cal P w K mg base (memV P w vf C S) "_law_is_pair" ℓ 4 g0) {f : Addr} {fd : FuncData} (Fn : Fun K "_law_is_paper" "_law_is_paper" s_law_is_paper f fd) : FnOk P w K mg base CX0 (ℓ + 1) f fd ["_law_play_here", "_law_who", "_law_least", "_law_thing"] (spF K (memV P w vf C S) 4 (runF 7 (B_law_is_paper vf S g0 g1))) :=
  fun_ok Fn sc_law_is_paper fun cdv A outer s H E hr => (fss_cons (fs_if (ft_not (ft_val (fe_isi (Tn := "tuple") (by rfl) hB.isinstance (by rfl) hB.tuple (by rfl) (fk_of (fe_var 3 (pv 3)))))) (fss_one (fs_ret fe_bl)) fss_nil)
      (fss_cons (fs_if (ft_cmp o_is (fk_of (fe_ix o_ix (fk_of (fe_var 0 (pv 0))) (fk_of fe_int) (fun _ _ => rfl))) (fk_of fe_non) (by rfl)) (fss_one (fs_ret (fe_and (fe_cmp (o_eq (u64 hr)) (fk_of (fe_var 3 (pv 3))) (fk_of (fe_tup hM fa_nil)) (by rfl)) (fe_one (fe_cmp o_le (fk_of (fe_var 2 (pv 2))) (fk_of fe_int) (by rfl)))))) fss_nil)
      (fss_cons (fs_if (ft_cmp (o_eq (u64 hr)) (fk_of (fe_ix o_ix (fk_of (fe_var 0 (pv 0))) (fk_of fe_int) (fun _ _ => rfl))) (fk_of (fe_var 1 (pv 1))) (by rfl)) (fss_one (fs_ret (fe_cal C_law_is_pair hr (Nat.le_refl _) (by rfl) (fa_cons (fe_var 0 (pv 0)) (fa_cons (fe_var 1 (pv 1)) (fa_cons (fe_var 2 (pv 2)) (fa_cons (fe_var 3 (pv 3)) fa_nil))))))) fss_nil)
      (fss_cons (fs_set (ps_set (i := 4) sc_law_is_paper.nd rfl (by first | exact Or.inl rfl | exact Or.inr rfl) (fe_cal C_law_can hr (Nat.le_trans (by decide) hl) (by rfl) (fa_cons (fe_var 0 (pv 0)) fa_nil))))
      (fss_cons (fs_if (ft_cmp (o_ne (u64 hr)) (fk_of (fe_callB c_len (by rfl) hB.len (by rfl) (fak_cons (fk_of (fe_var 3 (pv 3))) fak_nil))) (fk_of (fe_callB c_len (by rfl) hB.len (by rfl) (fak_cons (fk_of (fe_var 4 (pv 4))) fak_nil))) (by rfl)) (fss_one (fs_ret fe_bl)) fss_nil)
      (fss_cons (fs_for PassesOwn.never rfl (fi_zipLT hM (by rfl) hB.zip (fa_cons (fe_var 4 (pv 4)) (fa_cons (fe_var 3 (pv 3)) fa_nil))) (fg_tup (n := 2) rfl (fgs_cons (fg_name (pg_name (i := 5) sc_law_is_paper.nd rfl (by first | exact Or.inl rfl | exact Or.inr rfl))) (fgs_cons (fg_name (pg_name (i := 6) sc_law_is_paper.nd rfl (by first | exact Or.inl rfl | exact Or.inr rfl))) fgs_nil))) (fss_one (fs_if (fw_pt (fw_or (ft_not (ft_val (fe_cal C_law_is_pair hr (Nat.le_refl _) (by rfl) (fa_cons (fe_var 0 (pv 0)) (fa_cons (fe_var 1 (pv 1)) (fa_cons (fe_var 2 (pv 2)) (fa_cons (fe_var 6 (pv 6)) fa_nil))))))) (fw_or1 (ft_cmp (o_ne (u64 hr)) (fk_of (fe_ix o_ix (fk_of (fe_var 6 (pv 6))) (fk_of fe_int) (fun _ _ => rfl))) (fk_of (fe_var 5 (pv 5))) (by rfl))))) (fss_one (fs_ret fe_bl)) fss_nil)))
      (fss_one (fs_ret fe_bl))))))))
noncomputable def RC3 (vf : NestedKey → Int) (S : List NestedKey) : Nat → Nat → List D → Option D
  | 0, _ => fun _ => none
  | n + 1, j => match j with
    | 0 => runF 8 (B_law_is_pair vf S (RC3 vf S n 0) (RC3 vf S n 1))
    | 1 => runF 7 (B_law_is_paper vf S (RC3 vf S n 0) (RC3 vf S n 1))
    | _ => fun _ => none
theorem rc_ok3 {fi : Addr} {fdi : FuncData} (hM : MemOk (memV P w vf C S)) (hW : MemW (memV P w vf C S)) (hB : Bt mg) (cl_V : L2.Cls K C) (na_V : L2.NoAttr K C "known") (mk_V : L2.Mk K C fi) (F_init : FnOk P w K mg base CX0 1 fi fdi ["self"] (spInit P w C)) (b_init : L2.Binds K fdi ["self"] []) (m_V : mg "Values" = some (.ref C)) (C_law_is_card : Cal P w K mg base (memV P w vf C S) "_law_is_card" 3 1 F_law_is_card) (C_law_can : Cal P w K mg base (memV P w vf C S) "_law_can" 4 1 F_law_can) (C_law_lay : Cal P w K mg base (memV P w vf C S) "_law_lay" 5 2 F_law_lay) {f0 : Addr} {fd0 : FuncData} (Fn0 : Fun K "_law_is_pair" "_law_is_pair" s_law_is_pair f0 fd0) (bi0 : L2.Binds K fd0 ["_law_play_here", "_law_who", "_law_least", "_law_thing"] []) (me0 : mg "_law_is_pair" = some (.ref f0)) {f1 : Addr} {fd1 : FuncData} (Fn1 : Fun K "_law_is_paper" "_law_is_paper" s_law_is_paper f1 fd1) (bi1 : L2.Binds K fd1 ["_law_play_here", "_law_who", "_law_least", "_law_thing"] []) (me1 : mg "_law_is_paper" = some (.ref f1)) : ∀ n, Cal P w K mg base (memV P w vf C S) "_law_is_pair" (7 + n) 4 (RC3 vf S n 0) ∧ Cal P w K mg base (memV P w vf C S) "_law_is_paper" (7 + n) 4 (RC3 vf S n 1)
  | 0 => ⟨⟨f0, fd0, _, me0, Fn0.kp, bi0, fnok_none rfl⟩, ⟨f1, fd1, _, me1, Fn1.kp, bi1, fnok_none rfl⟩⟩
  | n + 1 => by
    have ih := rc_ok3 hM hW hB cl_V na_V mk_V F_init b_init m_V C_law_is_card C_law_can C_law_lay Fn0 bi0 me0 Fn1 bi1 me1 n
    obtain ⟨h0, h1⟩ := ih
    exact ⟨⟨f0, fd0, _, me0, Fn0.kp, bi0, okB_law_is_pair (ℓ := 7 + n) (Nat.le_add_right _ _) hM hW hB cl_V na_V mk_V F_init b_init m_V C_law_is_card C_law_can C_law_lay h1 Fn0⟩, ⟨f1, fd1, _, me1, Fn1.kp, bi1, okB_law_is_paper (ℓ := 7 + n) (Nat.le_add_right _ _) hM hW hB cl_V na_V mk_V F_init b_init m_V C_law_can h0 Fn1⟩⟩
abbrev s_law_places_in : Stmt := topS 49
abbrev N_law_places_in : List Str := ["_law_bent_one", "_law_bent_way", "_law_bent_ways", "_law_bent_at", "_law_bent_part"]
theorem sc_law_places_in : FnScope N_law_places_in ["_law_bent_one", "_law_bent_way"] (defScope s_law_places_in) := ⟨rfl, rfl, rfl, by decide +kernel, rfl, by decide +kernel, by decide +kernel⟩
noncomputable def B_law_places_in (vf : NestedKey → Int) (S : List NestedKey) (g0 : List D → Option D) : SF := (cSeq (cAsg (cL (chk 1000 (cCons (cV 1) cNil))) (gV 2))
  (cSeq (cIfS (cT1 asB (c1 (isiD "tuple") (cV 0))) (cFor (cEnT (cV 0)) (gT 2 (gC (gV 3) (gC (gV 4) gN))) (cAsg (c2 addD (cV 2) (cCall g0 (cArgs 2 (cCons (cV 4) (cCons (c2 addD (cV 1) (cTup (cCons (cV 3) cNil))) cNil))))) (gV 2))) cNext)
  (cRet (cV 2))))
theorem okB_law_places_in {fi : Addr} {fdi : FuncData} {ℓ : Nat} (hl : 2 ≤ ℓ) {g0 : List D → Option D} (hM : MemOk (memV P w vf C S)) (hW : MemW (memV P w vf C S)) (hB : Bt mg) (cl_V : L2.Cls K C) (na_V : L2.NoAttr K C "known") (mk_V : L2.Mk K C fi) (F_init : FnOk P w K mg base CX0 1 fi fdi ["self"] (spInit P w C)) (b_init : L2.Binds K fdi ["self"] []) (m_V : mg "Values" = some (.ref C)) (C_law_places_in : Cal P w K mg base (memV P w vf C S) "_law_places_in" ℓ 2 g0) {f : Addr} {fd : FuncData} (Fn : Fun K "_law_places_in" "_law_places_in" s_law_places_in f fd) : FnOk P w K mg base CX0 (ℓ + 1) f fd ["_law_bent_one", "_law_bent_way"] (spF K (memV P w vf C S) 2 (runF 5 (B_law_places_in vf S g0))) :=
  fun_ok Fn sc_law_places_in fun cdv A outer s H E hr => (fss_cons (fs_set (ps_set (i := 2) sc_law_places_in.nd rfl (by first | exact Or.inl rfl | exact Or.inr rfl) (fe_new (fn_lst hM (fa_cons (fe_var 1 (pv 1)) fa_nil)))))
      (fss_cons (fs_if (ft_val (fe_isi (Tn := "tuple") (by rfl) hB.isinstance (by rfl) hB.tuple (by rfl) (fk_of (fe_var 0 (pv 0))))) (fss_one (fs_for PassesOwn.never rfl (fi_enumT hM (by rfl) hB.enumerate (fe_var 0 (pv 0))) (fg_tup (n := 2) rfl (fgs_cons (fg_name (pg_name (i := 3) sc_law_places_in.nd rfl (by first | exact Or.inl rfl | exact Or.inr rfl))) (fgs_cons (fg_name (pg_name (i := 4) sc_law_places_in.nd rfl (by first | exact Or.inl rfl | exact Or.inr rfl))) fgs_nil))) (fss_one (fs_set (ps_set (i := 2) sc_law_places_in.nd rfl (by first | exact Or.inl rfl | exact Or.inr rfl) (fe_op (o_add hM) (fk_of (fe_var 2 (pv 2))) (fk_of (fe_cal C_law_places_in hr (Nat.le_refl _) (by rfl) (fa_cons (fe_var 4 (pv 4)) (fa_cons (fe_op (o_add hM) (fk_of (fe_var 1 (pv 1))) (fk_of (fe_tup hM (fa_cons (fe_var 3 (pv 3)) fa_nil)))) fa_nil)))))))))) fss_nil)
      (fss_one (fs_ret (fe_var 2 (pv 2))))))
noncomputable def RC4 (vf : NestedKey → Int) (S : List NestedKey) : Nat → Nat → List D → Option D
  | 0, _ => fun _ => none
  | n + 1, j => match j with
    | 0 => runF 5 (B_law_places_in vf S (RC4 vf S n 0))
    | _ => fun _ => none
theorem rc_ok4 {fi : Addr} {fdi : FuncData} (hM : MemOk (memV P w vf C S)) (hW : MemW (memV P w vf C S)) (hB : Bt mg) (cl_V : L2.Cls K C) (na_V : L2.NoAttr K C "known") (mk_V : L2.Mk K C fi) (F_init : FnOk P w K mg base CX0 1 fi fdi ["self"] (spInit P w C)) (b_init : L2.Binds K fdi ["self"] []) (m_V : mg "Values" = some (.ref C)) {f0 : Addr} {fd0 : FuncData} (Fn0 : Fun K "_law_places_in" "_law_places_in" s_law_places_in f0 fd0) (bi0 : L2.Binds K fd0 ["_law_bent_one", "_law_bent_way"] []) (me0 : mg "_law_places_in" = some (.ref f0)) : ∀ n, Cal P w K mg base (memV P w vf C S) "_law_places_in" (2 + n) 2 (RC4 vf S n 0)
  | 0 => ⟨f0, fd0, _, me0, Fn0.kp, bi0, fnok_none rfl⟩
  | n + 1 => by
    have ih := rc_ok4 hM hW hB cl_V na_V mk_V F_init b_init m_V Fn0 bi0 me0 n
    have h0 := ih
    exact ⟨f0, fd0, _, me0, Fn0.kp, bi0, okB_law_places_in (ℓ := 2 + n) (Nat.le_add_right _ _) hM hW hB cl_V na_V mk_V F_init b_init m_V h0 Fn0⟩
abbrev s_law_otherwise : Stmt := topS 51
abbrev N_law_otherwise : List Str := ["_law_bent_one", "_law_bent_number", "_law_bent_some"]
theorem sc_law_otherwise : FnScope N_law_otherwise ["_law_bent_one", "_law_bent_number"] (defScope s_law_otherwise) := ⟨rfl, rfl, rfl, by decide +kernel, rfl, by decide +kernel, by decide +kernel⟩
def B_law_otherwise : SF := (cSeq (cIfS (cT1 asB (c1 (isiD "tuple") (cV 0))) (cSeq (cAsg (cL (chk 1000 (cCons (cCall listD (cCons (cV 0) cNil)) (cCons (cCall listD (cCons (cV 0) cNil)) (cCons (c2 addD (cV 0) (cSl (cV 0) cNo (cPt (cC (.int 1))))) cNil))))) (gV 2))
  (cRet (c2 ixD (c2 addD (cV 2) (cL (chk 1000 (cCons (cSl (cV 0) (cPt (cC (.int 1))) cNo) (cCons (cL (chk 1000 (cCons (cV 0) cNil))) cNil))))) (c2 modD (cV 1) (cC (.int 5)))))) cNext)
  (cSeq (cIfS (cT1 asB (c1 (isiD "bool") (cV 0))) (cRet (c2 ixD (cL (chk 1000 (cCons (cCall intD (cCons (cV 0) cNil)) (cCons (cC .none) (cCons (cCall strD (cCons (cV 0) cNil)) cNil))))) (c2 modD (cV 1) (cC (.int 3))))) cNext)
  (cSeq (cIfS (cT1 asB (c1 (isiD "int") (cV 0))) (cSeq (cAsg (cL (chk 1000 (cCons (cC (.bool true)) (cCons (cC .none) (cCons (cCall strD (cCons (cV 0) cNil)) (cCons (cTup (cCons (cV 0) cNil)) cNil)))))) (gV 2))
  (cRet (c2 ixD (c2 addD (cV 2) (cL (chk 1000 (cCons (c2 subD (c1 negD (cC (.int 1))) (cV 0)) cNil)))) (c2 modD (cV 1) (cC (.int 5)))))) cNext)
  (cRet (c2 ixD (cL (chk 1000 (cCons (cC .none) (cCons (cTup (cCons (cV 0) cNil)) (cCons (cL (chk 1000 (cCons (cV 0) cNil))) (cCons (cC (.str "")) (cCons (cC (.int 0)) cNil))))))) (c2 modD (cV 1) (cC (.int 5))))))))
@[irreducible] def F_law_otherwise : List D → Option D := runF 3 (B_law_otherwise)
theorem F_law_otherwise_def : F_law_otherwise = runF 3 (B_law_otherwise) := by unfold F_law_otherwise; rfl
theorem ok_law_otherwise {fi : Addr} {fdi : FuncData} (hM : MemOk (memV P w vf C S)) (hW : MemW (memV P w vf C S)) (hB : Bt mg) (cl_V : L2.Cls K C) (na_V : L2.NoAttr K C "known") (mk_V : L2.Mk K C fi) (F_init : FnOk P w K mg base CX0 1 fi fdi ["self"] (spInit P w C)) (b_init : L2.Binds K fdi ["self"] []) (m_V : mg "Values" = some (.ref C)) {f : Addr} {fd : FuncData} (Fn : Fun K "_law_otherwise" "_law_otherwise" s_law_otherwise f fd) : FnOk P w K mg base CX0 3 f fd ["_law_bent_one", "_law_bent_number"] (spF K (memV P w vf C S) 2 (F_law_otherwise)) :=
  F_law_otherwise_def ▸ fun_ok Fn sc_law_otherwise fun cdv A outer s H E hr => (fss_cons (fs_if (ft_val (fe_isi (Tn := "tuple") (by rfl) hB.isinstance (by rfl) hB.tuple (by rfl) (fk_of (fe_var 0 (pv 0))))) (fss_cons (fs_set (ps_set (i := 2) sc_law_otherwise.nd rfl (by first | exact Or.inl rfl | exact Or.inr rfl) (fe_new (fn_lst hM (fa_cons (fe_callTy (c_list hM) (by rfl) hB.list (by rfl) (fak_cons (fk_of (fe_var 0 (pv 0))) fak_nil)) (fa_cons (fe_callTy (c_list hM) (by rfl) hB.list (by rfl) (fak_cons (fk_of (fe_var 0 (pv 0))) fak_nil)) (fa_cons (fe_op (o_add hM) (fk_of (fe_var 0 (pv 0))) (fk_of (fe_sl hM (fk_of (fe_var 0 (pv 0))) fo_none (fo_some fe_int)))) fa_nil)))))))
      (fss_one (fs_ret (fe_ix o_ix (fk_of (fe_op (o_add hM) (fk_of (fe_var 2 (pv 2))) (fk_of (fe_new (fn_lst hM (fa_cons (fe_sl hM (fk_of (fe_var 0 (pv 0))) (fo_some fe_int) fo_none) (fa_cons (fe_new (fn_lst hM (fa_cons (fe_var 0 (pv 0)) fa_nil))) fa_nil))))))) (fk_of (fe_op o_mod (fk_of (fe_var 1 (pv 1))) (fk_of fe_int))) (fun _ _ => rfl))))) fss_nil)
      (fss_cons (fs_if (ft_val (fe_isi (Tn := "bool") (by rfl) hB.isinstance (by rfl) hB.bool (by rfl) (fk_of (fe_var 0 (pv 0))))) (fss_one (fs_ret (fe_ix o_ix (fk_of (fe_new (fn_lst hM (fa_cons (fe_callTy c_int (by rfl) hB.int (by rfl) (fak_cons (fk_of (fe_var 0 (pv 0))) fak_nil)) (fa_cons fe_non (fa_cons (fe_callTy c_str (by rfl) hB.str (by rfl) (fak_cons (fk_of (fe_var 0 (pv 0))) fak_nil)) fa_nil)))))) (fk_of (fe_op o_mod (fk_of (fe_var 1 (pv 1))) (fk_of fe_int))) (fun _ _ => rfl)))) fss_nil)
      (fss_cons (fs_if (ft_val (fe_isi (Tn := "int") (by rfl) hB.isinstance (by rfl) hB.int (by rfl) (fk_of (fe_var 0 (pv 0))))) (fss_cons (fs_set (ps_set (i := 2) sc_law_otherwise.nd rfl (by first | exact Or.inl rfl | exact Or.inr rfl) (fe_new (fn_lst hM (fa_cons fe_bl (fa_cons fe_non (fa_cons (fe_callTy c_str (by rfl) hB.str (by rfl) (fak_cons (fk_of (fe_var 0 (pv 0))) fak_nil)) (fa_cons (fe_tup hM (fa_cons (fe_var 0 (pv 0)) fa_nil)) fa_nil))))))))
      (fss_one (fs_ret (fe_ix o_ix (fk_of (fe_op (o_add hM) (fk_of (fe_var 2 (pv 2))) (fk_of (fe_new (fn_lst hM (fa_cons (fe_op o_sub (fk_of (fe_un o_neg (fk_of fe_int))) (fk_of (fe_var 0 (pv 0)))) fa_nil)))))) (fk_of (fe_op o_mod (fk_of (fe_var 1 (pv 1))) (fk_of fe_int))) (fun _ _ => rfl))))) fss_nil)
      (fss_one (fs_ret (fe_ix o_ix (fk_of (fe_new (fn_lst hM (fa_cons fe_non (fa_cons (fe_tup hM (fa_cons (fe_var 0 (pv 0)) fa_nil)) (fa_cons (fe_new (fn_lst hM (fa_cons (fe_var 0 (pv 0)) fa_nil))) (fa_cons fe_str (fa_cons fe_int fa_nil)))))))) (fk_of (fe_op o_mod (fk_of (fe_var 1 (pv 1))) (fk_of fe_int))) (fun _ _ => rfl)))))))
abbrev s_law_put_at : Stmt := topS 50
abbrev N_law_put_at : List Str := ["_law_bent_one", "_law_bent_way", "_law_bent_by", "_law_bent_at", "_law_bent_part"]
theorem sc_law_put_at : FnScope N_law_put_at ["_law_bent_one", "_law_bent_way", "_law_bent_by"] (defScope s_law_put_at) := ⟨rfl, rfl, rfl, by decide +kernel, rfl, by decide +kernel, by decide +kernel⟩
noncomputable def B_law_put_at (vf : NestedKey → Int) (S : List NestedKey) (g0 : List D → Option D) : SF := (cSeq (cIfS (cT1 asB (c2 eqD (cV 1) (cTup cNil))) (cRet (cClo 2 (cV 0) (cCall F_law_otherwise (cArgs 2 (cCons (cV 0) (cCons (c2 fdivD (cV 1) (cC (.int 4096))) cNil)))))) cNext)
  (cSeq (cAsg (c2 ixD (cV 1) (cC (.int 0))) (gV 3))
  (cSeq (cAsg (cCall g0 (cArgs 3 (cCons (c2 ixD (cV 0) (cV 3)) (cCons (cSl (cV 1) (cPt (cC (.int 1))) cNo) (cCons (cV 2) cNil))))) (gV 4))
  (cRet (c2 addD (c2 addD (cSl (cV 0) cNo (cPt (cV 3))) (cTup (cCons (cV 4) cNil))) (cSl (cV 0) (cPt (c2 addD (cV 3) (cC (.int 1)))) cNo))))))
theorem okB_law_put_at {fi : Addr} {fdi : FuncData} {ℓ : Nat} (hl : 5 ≤ ℓ) {g0 : List D → Option D} (hM : MemOk (memV P w vf C S)) (hW : MemW (memV P w vf C S)) (hB : Bt mg) (cl_V : L2.Cls K C) (na_V : L2.NoAttr K C "known") (mk_V : L2.Mk K C fi) (F_init : FnOk P w K mg base CX0 1 fi fdi ["self"] (spInit P w C)) (b_init : L2.Binds K fdi ["self"] []) (m_V : mg "Values" = some (.ref C)) (C_law_otherwise : Cal P w K mg base (memV P w vf C S) "_law_otherwise" 3 2 F_law_otherwise) (C_law_put_at : Cal P w K mg base (memV P w vf C S) "_law_put_at" ℓ 3 g0) {f : Addr} {fd : FuncData} (Fn : Fun K "_law_put_at" "_law_put_at" s_law_put_at f fd) : FnOk P w K mg base CX0 (ℓ + 1) f fd ["_law_bent_one", "_law_bent_way", "_law_bent_by"] (spF K (memV P w vf C S) 3 (runF 5 (B_law_put_at vf S g0))) :=
  fun_ok Fn sc_law_put_at fun cdv A outer s H E hr => (fss_cons (fs_if (ft_cmp (o_eq (u64 hr)) (fk_of (fe_var 1 (pv 1))) (fk_of (fe_tup hM fa_nil)) (by rfl)) (fss_one (fs_ret (fe_callclo (k := 4) lam_ok (by decide) (hr.mono hl) (pv 2) (fe_var 0 (pv 0)) (fun _ _ _ _ _ => rfl) (fun _ _ _ _ _ hr => (fe_cal C_law_otherwise hr (by decide) (by rfl) (fa_cons (fe_var 0 (pv 0)) (fa_cons (fe_op o_fdiv (fk_of (fe_var 1 (pv 1))) (fk_of fe_int)) fa_nil))))))) fss_nil)
      (fss_cons (fs_set (ps_set (i := 3) sc_law_put_at.nd rfl (by first | exact Or.inl rfl | exact Or.inr rfl) (fe_ix o_ix (fk_of (fe_var 1 (pv 1))) (fk_of fe_int) (fun _ _ => rfl))))
      (fss_cons (fs_set (ps_set (i := 4) sc_law_put_at.nd rfl (by first | exact Or.inl rfl | exact Or.inr rfl) (fe_cal C_law_put_at hr (Nat.le_refl _) (by rfl) (fa_cons (fe_ix o_ix (fk_of (fe_var 0 (pv 0))) (fk_of (fe_var 3 (pv 3))) (fun _ _ => rfl)) (fa_cons (fe_sl hM (fk_of (fe_var 1 (pv 1))) (fo_some fe_int) fo_none) (fa_cons (fe_var 2 (pv 2)) fa_nil))))))
      (fss_one (fs_ret (fe_op (o_add hM) (fk_of (fe_op (o_add hM) (fk_of (fe_sl hM (fk_of (fe_var 0 (pv 0))) fo_none (fo_some (fe_var 3 (pv 3))))) (fk_of (fe_tup hM (fa_cons (fe_var 4 (pv 4)) fa_nil))))) (fk_of (fe_sl hM (fk_of (fe_var 0 (pv 0))) (fo_some (fe_op (o_add hM) (fk_of (fe_var 3 (pv 3))) (fk_of fe_int))) fo_none))))))))
noncomputable def RC5 (vf : NestedKey → Int) (S : List NestedKey) : Nat → Nat → List D → Option D
  | 0, _ => fun _ => none
  | n + 1, j => match j with
    | 0 => runF 5 (B_law_put_at vf S (RC5 vf S n 0))
    | _ => fun _ => none
theorem rc_ok5 {fi : Addr} {fdi : FuncData} (hM : MemOk (memV P w vf C S)) (hW : MemW (memV P w vf C S)) (hB : Bt mg) (cl_V : L2.Cls K C) (na_V : L2.NoAttr K C "known") (mk_V : L2.Mk K C fi) (F_init : FnOk P w K mg base CX0 1 fi fdi ["self"] (spInit P w C)) (b_init : L2.Binds K fdi ["self"] []) (m_V : mg "Values" = some (.ref C)) (C_law_otherwise : Cal P w K mg base (memV P w vf C S) "_law_otherwise" 3 2 F_law_otherwise) {f0 : Addr} {fd0 : FuncData} (Fn0 : Fun K "_law_put_at" "_law_put_at" s_law_put_at f0 fd0) (bi0 : L2.Binds K fd0 ["_law_bent_one", "_law_bent_way", "_law_bent_by"] []) (me0 : mg "_law_put_at" = some (.ref f0)) : ∀ n, Cal P w K mg base (memV P w vf C S) "_law_put_at" (5 + n) 3 (RC5 vf S n 0)
  | 0 => ⟨f0, fd0, _, me0, Fn0.kp, bi0, fnok_none rfl⟩
  | n + 1 => by
    have ih := rc_ok5 hM hW hB cl_V na_V mk_V F_init b_init m_V C_law_otherwise Fn0 bi0 me0 n
    have h0 := ih
    exact ⟨f0, fd0, _, me0, Fn0.kp, bi0, okB_law_put_at (ℓ := 5 + n) (Nat.le_add_right _ _) hM hW hB cl_V na_V mk_V F_init b_init m_V C_law_otherwise h0 Fn0⟩
abbrev s_law_spoilt : Stmt := topS 52
abbrev N_law_spoilt : List Str := ["_law_thing", "_law_number", "_law_deep", "_law_bent_ways", "_law_bent_way"]
theorem sc_law_spoilt : FnScope N_law_spoilt ["_law_thing", "_law_number", "_law_deep"] (defScope s_law_spoilt) := ⟨rfl, rfl, rfl, by decide +kernel, rfl, by decide +kernel, by decide +kernel⟩
noncomputable def B_law_spoilt (vf : NestedKey → Int) (S : List NestedKey) : SF := (cSeq (cAsg (cCall (RC4 vf S 20 0) (cArgs 2 (cCons (cV 0) (cCons (cTup cNil) cNil)))) (gV 3))
  (cSeq (cAsg (c2 ixD (cV 3) (c2 modD (cV 1) (cCall lenD (cCons (cV 3) cNil)))) (gV 4))
  (cRet (cPutL 1 (RC5 vf S 20 0) (cV 0) (cV 4)))))
@[irreducible] noncomputable def F_law_spoilt (vf : NestedKey → Int) (S : List NestedKey) : List D → Option D := runF 5 (B_law_spoilt vf S)
theorem F_law_spoilt_def (vf : NestedKey → Int) (S : List NestedKey) : F_law_spoilt vf S = runF 5 (B_law_spoilt vf S) := by unfold F_law_spoilt; rfl
theorem ok_law_spoilt {fi : Addr} {fdi : FuncData} {TP c : Addr} (tb : LamX.TabB base mg c TP) (hI : IsT K TP) (hM : MemOk (memV P w vf C S)) (hW : MemW (memV P w vf C S)) (hB : Bt mg) (cl_V : L2.Cls K C) (na_V : L2.NoAttr K C "known") (mk_V : L2.Mk K C fi) (F_init : FnOk P w K mg base CX0 1 fi fdi ["self"] (spInit P w C)) (b_init : L2.Binds K fdi ["self"] []) (m_V : mg "Values" = some (.ref C)) (C_law_places_in : Cal P w K mg base (memV P w vf C S) "_law_places_in" 22 2 (RC4 vf S 20 0)) (C_law_put_at : Cal P w K mg base (memV P w vf C S) "_law_put_at" 25 3 (RC5 vf S 20 0)) {f : Addr} {oc : Value} {od an : Option Addr} {osl : Array (Option Value)} {kV doc pm ct : Value} (lk : K.lookup f = some ⟨oc, od, .func (PySem.W.fnOf "_law_spoilt" "_law_spoilt" (defArgs s_law_spoilt) (defBody s_law_spoilt) (defScope s_law_spoilt) .none kV doc pm an (.ref c) ct), osl⟩) (hcd : PySem.W.codeIn K (.ref c) "_law_spoilt" = true) : FnOk P w K mg base CX0 26 f (PySem.W.fnOf "_law_spoilt" "_law_spoilt" (defArgs s_law_spoilt) (defBody s_law_spoilt) (defScope s_law_spoilt) .none kV doc pm an (.ref c) ct) ["_law_thing", "_law_number", "_law_deep"] (spF K (memV P w vf C S) 3 (F_law_spoilt vf S)) :=
  F_law_spoilt_def vf S ▸ fun_okC lk hcd sc_law_spoilt fun A outer s H E hr => (fss_cons (fs_set (ps_set (i := 3) sc_law_spoilt.nd rfl (by first | exact Or.inl rfl | exact Or.inr rfl) (fe_cal C_law_places_in hr (by decide) (by rfl) (fa_cons (fe_var 0 (pv 0)) (fa_cons (fe_tup hM fa_nil) fa_nil)))))
      (fss_cons (fs_set (ps_set (i := 4) sc_law_spoilt.nd rfl (by first | exact Or.inl rfl | exact Or.inr rfl) (fe_ix o_ix (fk_of (fe_var 3 (pv 3))) (fk_of (fe_op o_mod (fk_of (fe_var 1 (pv 1))) (fk_of (fe_callB c_len (by rfl) hB.len (by rfl) (fak_cons (fk_of (fe_var 3 (pv 3))) fak_nil))))) (fun _ _ => rfl))))
      (fss_one (fs_ret (fe_putlam1 (cc := s.heap.objs.size + 1) C_law_put_at hr (by decide) (by rfl) tb hI (fe_var 0 (pv 0)) (fe_var 4 (pv 4)) rfl rfl rfl rfl lam_fr (lam_cl _) rfl rfl (Nat.le_succ _))))))
abbrev s_law_once : Stmt := topS 53
abbrev N_law_once : List Str := ["_law_script", "_law_number", "_law_play_here", "_law_who", "_law_due", "_law_least", "_law_thing", "_law_found"]
theorem sc_law_once : FnScope N_law_once ["_law_script"] (defScope s_law_once) := ⟨rfl, rfl, rfl, by decide +kernel, rfl, by decide +kernel, by decide +kernel⟩
noncomputable def B_law_once (vf : NestedKey → Int) (S : List NestedKey) : SF := (cSeq (cAsg (cCall F_law_mixed (cArgs 2 (cCons (cV 0) (cCons (cC (.int 2)) cNil)))) (gV 1))
  (cSeq (cAsg (cCall F_law_play (cArgs 2 (cCons (cCall F_law_mixed (cArgs 2 (cCons (cV 0) (cCons (cC (.int 0)) cNil)))) (cCons (cCall F_law_mixed (cArgs 2 (cCons (cV 0) (cCons (cC (.int 1)) cNil)))) cNil)))) (gV 2))
  (cSeq (cAsg (c2 modD (cV 1) (cC (.int 2))) (gV 3))
  (cSeq (cAsg (c2 mulD (cCall (RC2 vf S 20 0) (cArgs 2 (cCons (cV 2) (cCons (cC (memD (.int 0))) cNil)))) (c2 subD (cC (.int 1)) (c2 mulD (cC (.int 2)) (cV 3)))) (gV 4))
  (cSeq (cAsg (c2 subD (c2 addD (cV 4) (c2 modD (c2 fdivD (cV 1) (cC (.int 2))) (cC (.int 7)))) (cC (.int 4))) (gV 5))
  (cSeq (cAsg (cCall (F_paper vf S) (cArgs 3 (cCons (cV 2) (cCons (cV 3) (cCons (cV 5) cNil))))) (gV 6))
  (cSeq (cIfS (cT1 asB (c2 neD (c2 isD (cV 6) (cC .none)) (c2 gtD (cV 5) (cV 4)))) (cRet (cC (.bool false))) cNext)
  (cSeq (cIfS (cAnd (cT1 asB (c2 isntD (cV 6) (cC .none))) (cNot (cT1 asB (cCall (RC3 vf S 20 1) (cArgs 4 (cCons (cV 2) (cCons (cV 3) (cCons (cV 5) (cCons (cV 6) cNil))))))))) (cRet (cC (.bool false))) cNext)
  (cSeq (cIfS (cT1 asB (c2 isD (cV 6) (cC .none))) (cAsg (cCall (F_paper vf S) (cArgs 3 (cCons (cV 2) (cCons (cV 3) (cCons (cV 4) cNil))))) (gV 6)) cNext)
  (cSeq (cIfS (cT1 asB (c2 eqD (c2 modD (c2 fdivD (cV 1) (cC (.int 16))) (cC (.int 2))) (cC (.int 1)))) (cAsg (cCall (F_law_spoilt vf S) (cArgs 3 (cCons (cV 6) (cCons (cCall F_law_mixed (cArgs 2 (cCons (cV 0) (cCons (cC (.int 3)) cNil)))) (cCons (c2 modD (c2 fdivD (cV 1) (cC (.int 32))) (cC (.int 5))) cNil))))) (gV 6)) cNext)
  (cSeq (cAsg (cCall (RC1 vf S 20 1) (cArgs 4 (cCons (cV 2) (cCons (cV 3) (cCons (cV 5) (cCons (cV 6) cNil)))))) (gV 7))
  (cRet (cAndV (c1 (isiD "bool") (cV 7)) (c2 eqD (cV 7) (cCall (RC3 vf S 20 1) (cArgs 4 (cCons (cV 2) (cCons (cV 3) (cCons (cV 5) (cCons (cV 6) cNil))))))))))))))))))))
@[irreducible] noncomputable def F_law_once (vf : NestedKey → Int) (S : List NestedKey) : List D → Option D := runF 8 (B_law_once vf S)
theorem F_law_once_def (vf : NestedKey → Int) (S : List NestedKey) : F_law_once vf S = runF 8 (B_law_once vf S) := by unfold F_law_once; rfl
theorem ok_law_once {fi : Addr} {fdi : FuncData} (hM : MemOk (memV P w vf C S)) (hW : MemW (memV P w vf C S)) (hB : Bt mg) (cl_V : L2.Cls K C) (na_V : L2.NoAttr K C "known") (mk_V : L2.Mk K C fi) (F_init : FnOk P w K mg base CX0 1 fi fdi ["self"] (spInit P w C)) (b_init : L2.Binds K fdi ["self"] []) (m_V : mg "Values" = some (.ref C)) (C_law_mixed : Cal P w K mg base (memV P w vf C S) "_law_mixed" 4 2 F_law_mixed) (C_law_play : Cal P w K mg base (memV P w vf C S) "_law_play" 6 2 F_law_play) (C_law_value : Cal P w K mg base (memV P w vf C S) "_law_value" 27 2 (RC2 vf S 20 0)) (C_paper : Cal P w K mg base (memV P w vf C S) "paper" 53 3 (F_paper vf S)) (C_law_is_paper : Cal P w K mg base (memV P w vf C S) "_law_is_paper" 27 4 (RC3 vf S 20 1)) (C_law_spoilt : Cal P w K mg base (memV P w vf C S) "_law_spoilt" 26 3 (F_law_spoilt vf S)) (C_is_paper : Cal P w K mg base (memV P w vf C S) "is_paper" 29 4 (RC1 vf S 20 1)) {f : Addr} {fd : FuncData} (Fn : Fun K "_law_once" "_law_once" s_law_once f fd) : FnOk P w K mg base CX0 54 f fd ["_law_script"] (spF K (memV P w vf C S) 1 (F_law_once vf S)) :=
  F_law_once_def vf S ▸ fun_ok Fn sc_law_once fun cdv A outer s H E hr => (fss_cons (fs_set (ps_set (i := 1) sc_law_once.nd rfl (by first | exact Or.inl rfl | exact Or.inr rfl) (fe_cal C_law_mixed hr (by decide) (by rfl) (fa_cons (fe_var 0 (pv 0)) (fa_cons fe_int fa_nil)))))
      (fss_cons (fs_set (ps_set (i := 2) sc_law_once.nd rfl (by first | exact Or.inl rfl | exact Or.inr rfl) (fe_cal C_law_play hr (by decide) (by rfl) (fa_cons (fe_cal C_law_mixed hr (by decide) (by rfl) (fa_cons (fe_var 0 (pv 0)) (fa_cons fe_int fa_nil))) (fa_cons (fe_cal C_law_mixed hr (by decide) (by rfl) (fa_cons (fe_var 0 (pv 0)) (fa_cons fe_int fa_nil))) fa_nil)))))
      (fss_cons (fs_set (ps_set (i := 3) sc_law_once.nd rfl (by first | exact Or.inl rfl | exact Or.inr rfl) (fe_op o_mod (fk_of (fe_var 1 (pv 1))) (fk_of fe_int))))
      (fss_cons (fs_set (ps_set (i := 4) sc_law_once.nd rfl (by first | exact Or.inl rfl | exact Or.inr rfl) (fe_op (o_mul hM) (fk_of (fe_cal C_law_value hr (by decide) (by rfl) (fa_cons (fe_var 2 (pv 2)) (fa_cons fe_newD fa_nil)))) (fk_of (fe_op o_sub (fk_of fe_int) (fk_of (fe_op (o_mul hM) (fk_of fe_int) (fk_of (fe_var 3 (pv 3))))))))))
      (fss_cons (fs_set (ps_set (i := 5) sc_law_once.nd rfl (by first | exact Or.inl rfl | exact Or.inr rfl) (fe_op o_sub (fk_of (fe_op (o_add hM) (fk_of (fe_var 4 (pv 4))) (fk_of (fe_op o_mod (fk_of (fe_op o_fdiv (fk_of (fe_var 1 (pv 1))) (fk_of fe_int))) (fk_of fe_int))))) (fk_of fe_int))))
      (fss_cons (fs_set (ps_set (i := 6) sc_law_once.nd rfl (by first | exact Or.inl rfl | exact Or.inr rfl) (fe_cal C_paper hr (by decide) (by rfl) (fa_cons (fe_var 2 (pv 2)) (fa_cons (fe_var 3 (pv 3)) (fa_cons (fe_var 5 (pv 5)) fa_nil))))))
      (fss_cons (fs_if (ft_cmp (o_ne (u64 hr)) (fk_of (fe_cmp o_is (fk_of (fe_var 6 (pv 6))) (fk_of fe_non) (by rfl))) (fk_of (fe_cmp o_gt (fk_of (fe_var 5 (pv 5))) (fk_of (fe_var 4 (pv 4))) (by rfl))) (by rfl)) (fss_one (fs_ret fe_bl)) fss_nil)
      (fss_cons (fs_if (fw_pt (fw_and (ft_cmp o_isnt (fk_of (fe_var 6 (pv 6))) (fk_of fe_non) (by rfl)) (fw_and1 (ft_not (ft_val (fe_cal C_law_is_paper hr (by decide) (by rfl) (fa_cons (fe_var 2 (pv 2)) (fa_cons (fe_var 3 (pv 3)) (fa_cons (fe_var 5 (pv 5)) (fa_cons (fe_var 6 (pv 6)) fa_nil)))))))))) (fss_one (fs_ret fe_bl)) fss_nil)
      (fss_cons (fs_if (ft_cmp o_is (fk_of (fe_var 6 (pv 6))) (fk_of fe_non) (by rfl)) (fss_one (fs_set (ps_set (i := 6) sc_law_once.nd rfl (by first | exact Or.inl rfl | exact Or.inr rfl) (fe_cal C_paper hr (by decide) (by rfl) (fa_cons (fe_var 2 (pv 2)) (fa_cons (fe_var 3 (pv 3)) (fa_cons (fe_var 4 (pv 4)) fa_nil))))))) fss_nil)
      (fss_cons (fs_if (ft_cmp (o_eq (u64 hr)) (fk_of (fe_op o_mod (fk_of (fe_op o_fdiv (fk_of (fe_var 1 (pv 1))) (fk_of fe_int))) (fk_of fe_int))) (fk_of fe_int) (by rfl)) (fss_one (fs_set (ps_set (i := 6) sc_law_once.nd rfl (by first | exact Or.inl rfl | exact Or.inr rfl) (fe_cal C_law_spoilt hr (by decide) (by rfl) (fa_cons (fe_var 6 (pv 6)) (fa_cons (fe_cal C_law_mixed hr (by decide) (by rfl) (fa_cons (fe_var 0 (pv 0)) (fa_cons fe_int fa_nil))) (fa_cons (fe_op o_mod (fk_of (fe_op o_fdiv (fk_of (fe_var 1 (pv 1))) (fk_of fe_int))) (fk_of fe_int)) fa_nil))))))) fss_nil)
      (fss_cons (fs_set (ps_set (i := 7) sc_law_once.nd rfl (by first | exact Or.inl rfl | exact Or.inr rfl) (fe_cal C_is_paper hr (by decide) (by rfl) (fa_cons (fe_var 2 (pv 2)) (fa_cons (fe_var 3 (pv 3)) (fa_cons (fe_var 5 (pv 5)) (fa_cons (fe_var 6 (pv 6)) fa_nil)))))))
      (fss_one (fs_ret (fe_and (fe_isi (Tn := "bool") (by rfl) hB.isinstance (by rfl) hB.bool (by rfl) (fk_of (fe_var 7 (pv 7)))) (fe_one (fe_cmp (o_eq (u64 hr)) (fk_of (fe_var 7 (pv 7))) (fk_of (fe_cal C_law_is_paper hr (by decide) (by rfl) (fa_cons (fe_var 2 (pv 2)) (fa_cons (fe_var 3 (pv 3)) (fa_cons (fe_var 5 (pv 5)) (fa_cons (fe_var 6 (pv 6)) fa_nil)))))) (by rfl)))))))))))))))))
abbrev s_law : Stmt := topS 54
abbrev N_law : List Str := ["_law_script", "_law_bent_turn", "_law_bent_cell"]
theorem sc_law : FnScope N_law ["_law_script"] (defScope s_law) := ⟨rfl, rfl, rfl, by decide +kernel, rfl, by decide +kernel, by decide +kernel⟩
noncomputable def B_law (vf : NestedKey → Int) (S : List NestedKey) : SF := (cSeq (cFor (cRg1 (cC (.int 8))) (gV 1) (cIfS (cNot (cT1 asB (cCall (F_law_once vf S) (cArgs 1 (cCons (c2 addD (cL (cLc (cItS (cV 0)) [2] (gV 2) cYes (c2 addD (cV 2) (c2 mulD (cC (.int 104729)) (cV 1))))) (cL (chk 1000 (cCons (cV 1) cNil)))) cNil))))) (cRet (cC (.bool false))) cNext))
  (cRet (cC (.bool true))))
@[irreducible] noncomputable def F_law (vf : NestedKey → Int) (S : List NestedKey) : List D → Option D := runF 3 (B_law vf S)
theorem F_law_def (vf : NestedKey → Int) (S : List NestedKey) : F_law vf S = runF 3 (B_law vf S) := by unfold F_law; rfl
theorem ok_law {fi : Addr} {fdi : FuncData} (hM : MemOk (memV P w vf C S)) (hW : MemW (memV P w vf C S)) (hB : Bt mg) (cl_V : L2.Cls K C) (na_V : L2.NoAttr K C "known") (mk_V : L2.Mk K C fi) (F_init : FnOk P w K mg base CX0 1 fi fdi ["self"] (spInit P w C)) (b_init : L2.Binds K fdi ["self"] []) (m_V : mg "Values" = some (.ref C)) (C_law_once : Cal P w K mg base (memV P w vf C S) "_law_once" 54 1 (F_law_once vf S)) {f : Addr} {fd : FuncData} (Fn : Fun K "law" "law" s_law f fd) : FnOk P w K mg base CX0 55 f fd ["_law_script"] (spF K (memV P w vf C S) 1 (F_law vf S)) :=
  F_law_def vf S ▸ fun_ok Fn sc_law fun cdv A outer s H E hr => (fss_cons (fs_for PassesOwn.never rfl (fi_range1 (by rfl) hB.range fe_int) (fg_name (pg_name (i := 1) sc_law.nd rfl (by first | exact Or.inl rfl | exact Or.inr rfl))) (fss_one (fs_if (ft_not (ft_val (fe_cal C_law_once hr (by decide) (by rfl) (fa_cons (fe_op (o_add hM) (fk_of (fe_new (fn_lc hM hW rfl sc_law.nd (FI.zero (fi_scr (fe_var 0 (pv 0)))) (blkOk_by (own := [("_law_bent_cell", 2)]) (N := N_law) (sc := defScope s_law) (by decide +kernel)) (fun _ _ _ _ _ => (fg_name (pg_name (i := 2) sc_law.nd rfl (by first | exact Or.inl rfl | exact Or.inr rfl)))) (fun _ _ _ _ _ => fts_nil) (fun _ _ _ _ _ => (fe_op (o_add hM) (fk_of (fe_var 2 (pv 2))) (fk_of (fe_op (o_mul hM) (fk_of fe_int) (fk_of (fe_var 1 (pv 1)))))))))) (fk_of (fe_new (fn_lst hM (fa_cons (fe_var 1 (pv 1)) fa_nil))))) fa_nil)))) (fss_one (fs_ret fe_bl)) fss_nil)))
      (fss_one (fs_ret fe_bl)))
end
end LW
namespace LW
open PySem G

local macro_rules | `(tactic| walk_at "op") => `(tactic| first
  | assumption
  | rfl
  | exact mod_int (by first | decide | omega)
  | exact fdiv_int (by first | decide | omega)
  | exact mul_int (.inr (by first | decide | omega))
  | exact mul_int (.inl (by first | decide | omega))
  | exact eq_int _ _
  | exact ne_int _ _)
local macro_rules | `(tactic| walk_at "ev") => `(tactic| first
  | rfl
  | assumption
  | (apply e2; (walk_at "ev"); (walk_at "ev"); (walk_at "op"))
  | (apply e1; (walk_at "ev"); (walk_at "op"))
  | (apply eT; (walk_at "ev"); (walk_at "op"))
  | (apply eCons; (walk_at "ev"); (walk_at "ev"))
  | (apply eC; (walk_at "ev"); (walk_at "op"))
  | (apply eArgs; (walk_at "ev"); rfl)
  | (apply eTup; (walk_at "ev"); (simp only [List.length_cons, List.length_nil]; decide))
  | (apply eL; (walk_at "ev"))
  | (apply eChk; (walk_at "ev"); (simp only [List.length_cons, List.length_nil]; decide))
  | (apply and_2; (walk_at "ev"); (walk_at "ev"))
  | (apply or_2; (walk_at "ev"); (walk_at "ev"))
  | (apply not_1; (walk_at "ev"))
  | (apply eSl; (walk_at "ev"); (walk_at "ev"); (walk_at "ev"); (walk_at "op"))
  | (apply ePt; (walk_at "ev"))
  | (apply eIt; (walk_at "ev"))
  | (apply eItT; (walk_at "ev"))
  | (apply eEn; (walk_at "ev"))
  | (apply eRg1; (walk_at "ev"); (first | decide | omega))
  | (apply eRg2; (walk_at "ev"); (walk_at "ev"); (first | decide | omega)))
local macro_rules | `(tactic| walk_at "st") => `(tactic| first
  | (apply s_set; (walk_at "ev"))
  | (apply s_own; (walk_at "ev"))
  | (apply s_frz; rfl)
  | (apply s_ret; (walk_at "ev"); rfl)
  | (apply r_ret; (walk_at "ev"); rfl)
  | (apply s_next))
local macro_rules | `(tactic| walk_at "en") => `(tactic| simp only [List.set_cons_succ, List.set_cons_zero])
/-! ### small things -/
def rgI (lo : Int) (n : Nat) : List Int := (List.range n).map fun i => lo + (i : Nat)
theorem rgL_eq (lo : Int) (n : Nat) : rgL lo n = (rgI lo n).map PyData.int := by
  unfold rgL rgI
  rw [List.map_map]; rfl
theorem rgI_len (lo : Int) (n : Nat) : (rgI lo n).length = n := by unfold rgI; rw [List.length_map, List.length_range]
theorem rgI_mem {lo : Int} {n : Nat} {k : Int} (h : k ∈ rgI lo n) : lo ≤ k ∧ k < lo + n := by
  unfold rgI at h
  obtain ⟨i, hi, rfl⟩ := List.mem_map.mp h
  have := List.mem_range.mp hi
  omega
theorem menu4 (a b c d : Int) {i : Int} (h0 : 0 ≤ i) (h1 : i < 4) : ∃ x : Int, ixD (.tuple [.int a, .int b, .int c, .int d]) (.int i) = some (.int x) ∧ (x = a ∨ x = b ∨ x = c ∨ x = d) := by
  have h : i = 0 ∨ i = 1 ∨ i = 2 ∨ i = 3 := by omega
  rcases h with rfl | rfl | rfl | rfl
  · exact ⟨a, rfl, .inl rfl⟩
  · exact ⟨b, rfl, .inr (.inl rfl)⟩
  · exact ⟨c, rfl, .inr (.inr (.inl rfl))⟩
  · exact ⟨d, rfl, .inr (.inr (.inr rfl))⟩
theorem lim_of {n : Nat} (h : n ≤ 100000) : n < lim := by show n < 16777216; omega
theorem sIx_n (n : Nat) (k : Int) (h0 : 0 ≤ k) (h1 : k ≤ n) (d : Nat) : HT.sIx n d (some k) = k.toNat := by
  have := HT.sIx_nat n d k.toNat
  rw [Int.toNat_of_nonneg h0] at this
  rw [this]; omega
theorem cut_take (ds : List D) (k : Int) (h0 : 0 ≤ k) (h1 : k ≤ ds.length) : cutL ds none (some k) = ds.take k.toNat := by
  unfold cutL
  rw [sIx_n _ k h0 h1, HT.sIx_none, List.drop_zero, Nat.sub_zero]
theorem cut_drop (ds : List D) (k : Int) (h0 : 0 ≤ k) (h1 : k ≤ ds.length) : cutL ds (some k) none = ds.drop k.toNat := by
  unfold cutL
  rw [sIx_n _ k h0 h1, HT.sIx_none]
  exact List.take_of_length_le (by rw [List.length_drop]; omega)
theorem lcM {ρ : Ev} {it : LF} {vs : List Nat} {g : GF} {t : BF} {f : EF} {α : Type} {enc : α → D} {out : α → D} {p : α → Bool} {l : List α} (h : it ρ = some (l.map enc)) (hl : l.length ≤ 100000)
    (H : ∀ a ∈ l, ∃ ρ1, g (enc a) (wipeE ρ vs) = some ρ1 ∧ t ρ1 = some (p a) ∧ (p a = true → f ρ1 = some (out a))) : cLc it vs g t f ρ = some ((l.filter p).map out) :=
  (eLc h (by rw [List.length_map]; exact Nat.le_of_lt (lim_of hl))).trans (lc_map H)
/-- a comprehension as a value -/
theorem eLcM {ρ : Ev} {it : LF} {vs : List Nat} {g : GF} {t : BF} {f : EF} {α : Type} {enc : α → D} {out : α → D} {p : α → Bool} {l : List α} (h : it ρ = some (l.map enc)) (hl : l.length ≤ 100000)
    (H : ∀ a ∈ l, ∃ ρ1, g (enc a) (wipeE ρ vs) = some ρ1 ∧ t ρ1 = some (p a) ∧ (p a = true → f ρ1 = some (out a))) : cL (cLc it vs g t f) ρ = some (.list ((l.filter p).map out)) :=
  eL ((eLc h (by rw [List.length_map]; exact Nat.le_of_lt (lim_of hl))).trans (lc_map H))
theorem eLcA {ρ : Ev} {it : LF} {vs : List Nat} {g : GF} {f : EF} {α : Type} {enc : α → D} {out : α → D} {l : List α} (h : it ρ = some (l.map enc)) (hl : l.length ≤ 100000)
    (H : ∀ a ∈ l, ∃ ρ1, g (enc a) (wipeE ρ vs) = some ρ1 ∧ f ρ1 = some (out a)) : cL (cLc it vs g cYes f) ρ = some (.list (l.map out)) := by
  have := eLcM (t := cYes) (p := fun _ => true) (out := out) (f := f) (g := g) (vs := vs) h hl fun a ha => by
    obtain ⟨ρ1, h1, h2⟩ := H a ha
    exact ⟨ρ1, h1, rfl, fun _ => h2⟩
  rw [List.filter_eq_self.mpr (fun _ _ => rfl)] at this
  exact this
theorem sum_list {ρ : Ev} {f : EF} {ns : List Int} (h : f ρ = some (.list (ns.map PyData.int))) : cCall sumD (cCons f cNil) ρ = some (.int ns.sum) :=
  eC (eCons h rfl) (by show (intsD _).bind _ = _; rw [ints_map]; rfl)
theorem max_two (a b : Int) : maxD [.list [.int a, .int b]] = some (.int (max a b)) := by
  show (maxL [a, b]).bind _ = _
  have : maxL [a, b] = some (max a b) := by
    unfold maxL
    by_cases h : b ≤ a
    · have e : max a b = a := by omega
      rw [e]
      simp [h]
    · have e : max a b = b := by omega
      rw [e]
      have h2 : a ≤ b := by omega
      simp [h, h2]
  rw [this]; rfl
theorem min_two (a b : Int) : minD [.int a, .int b] = some (.int (min a b)) := by
  show some (PyData.int (if b < a then b else a)) = _
  congr 2
  split <;> omega
theorem rgI_consN (m k : Nat) : rgI (m : Int) (k + 1) = (m : Int) :: rgI ((m + 1 : Nat) : Int) k := by
  unfold rgI
  rw [List.range_succ_eq_map, List.map_cons, List.map_map]
  congr 1
  · simp
    intro k _
    omega
theorem add_list {xs ys : List D} (h : xs.length + ys.length ≤ 100000) : addD (.list xs) (.list ys) = some (.list (xs ++ ys)) := by
  show (if xs.length + ys.length ≤ lim then some (PyData.list (xs ++ ys)) else none) = _
  rw [if_pos (show _ ≤ lim from Nat.le_of_lt (lim_of h))]
/-! ### the draws -/
/-- a script, as it is handed in or made anew -/
def Scr (d : D) (ns : List Int) : Prop := d = scrD ns ∨ d = .list (ns.map PyData.int)
def cellI (ns : List Int) (k : Int) : Int := if k < ns.length then (ns[k.toNat]?).getD 0 else 0
theorem Scr.len {d : D} {ns : List Int} (h : Scr d ns) : lenD [d] = some (.int ns.length) := by
  rcases h with rfl | rfl
  · show (scrI _).bind _ = _
    rw [scrI_of]; rfl
  · show some (PyData.int ((ns.map PyData.int).length : Nat)) = _
    rw [List.length_map]
theorem Scr.ix {d : D} {ns : List Int} (h : Scr d ns) {k : Int} (h0 : 0 ≤ k) (h1 : k < ns.length) : ixD d (.int k) = some (.int ((ns[k.toNat]?).getD 0)) := by
  have hl : k.toNat < ns.length := by omega
  have e : L2.atI ns k = some ((ns[k.toNat]?).getD 0) := by
    unfold L2.atI L2.ixN
    rw [if_pos h0, if_pos h1]
    show ns[k.toNat]? = _
    rw [List.getElem?_eq_getElem hl]; rfl
  rcases h with rfl | rfl
  · show (scrI _).bind _ = _
    rw [scrI_of]
    show (L2.atI ns k).bind _ = _
    rw [e]; rfl
  · show L2.atI (ns.map PyData.int) k = _
    unfold L2.atI at e ⊢
    rw [List.length_map]
    obtain ⟨j, e1, e2⟩ := bind_some e
    rw [e1]
    show (ns.map PyData.int)[j]? = _
    rw [List.getElem?_map, e2]; rfl
theorem cell_at {d : D} {ns : List Int} (h : Scr d ns) {k : Int} (h0 : 0 ≤ k) : F_law_cell_at [d, .int k] = some (.int (cellI ns k)) := by
  rw [F_law_cell_at_def]
  apply run_rt
  show B_law_cell_at [.va d, .va (.int k)] = _
  unfold B_law_cell_at cellI
  have hl := h.len
  have t : cT1 asB (c2 ltD (cV 1) (cCall lenD (cCons (cV 0) cNil))) [.va d, .va (.int k)] = some (decide (k < ns.length)) := by walk_at "ev"
  by_cases hk : k < ns.length
  · rw [decide_eq_true hk] at t
    rw [if_pos hk]
    have hx := h.ix h0 hk
    apply s_ifT t
    walk_at "st"
  · rw [decide_eq_false hk] at t
    rw [if_neg hk]
    apply s_ifF t
    walk_at "st"
    walk_at "st"
theorem mixed_ok {d : D} {ns : List Int} (h : Scr d ns) {k : Int} (h0 : 0 ≤ k) (h1 : k < 1000) : ∃ m : Int, F_law_mixed [d, .int k] = some (.int m) ∧ 0 ≤ m ∧ m < 2147483629 := by
  let c : Int := (cellI ns k + 7919 * k + 1) * 48271 % 2147483647
  have c0 : 0 ≤ c := Int.emod_nonneg _ (by decide)
  have c1 : c < 2147483647 := Int.emod_lt_of_pos _ (by decide)
  refine ⟨(c * c + 7 * c + k) % 2147483629, ?_, Int.emod_nonneg _ (by decide), Int.emod_lt_of_pos _ (by decide)⟩
  rw [F_law_mixed_def]
  apply run_rt
  show B_law_mixed [.va d, .va (.int k), .no] = _
  unfold B_law_mixed
  have hc := cell_at h h0
  walk_at "st"
  show cRet _ [.va d, .va (.int k), .va (.int c)] = _
  walk_at "st"
theorem drawn_ok {n k : Int} (n0 : 0 ≤ n) (n1 : n < 2147483629) (h0 : 0 ≤ k) (h1 : k < 1000) : ∃ m : Int, F_law_drawn [.int n, .int k] = some (.int m) ∧ 0 ≤ m ∧ m < 2147483629 := by
  let c : Int := (n + 104729 * k + 17) * 69621 % 2147483647
  have c0 : 0 ≤ c := Int.emod_nonneg _ (by decide)
  have c1 : c < 2147483647 := Int.emod_lt_of_pos _ (by decide)
  refine ⟨(c * c + 3 * c + k) % 2147483629, ?_, Int.emod_nonneg _ (by decide), Int.emod_lt_of_pos _ (by decide)⟩
  rw [F_law_drawn_def]
  apply run_rt
  show B_law_drawn [.va (.int n), .va (.int k), .no] = _
  unfold B_law_drawn
  walk_at "st"
  show cRet _ [.va (.int n), .va (.int k), .va (.int c)] = _
  walk_at "st"
/-! ### cards, and the deal -/
abbrev Cd := Int × Int
def cdD (c : Cd) : D := .tuple [.int c.1, .int c.2]
def cdT (l : List Cd) : D := .tuple (l.map cdD)
def cdL (l : List Cd) : D := .list (l.map cdD)
def CdOk (c : Cd) : Prop := 1 ≤ c.1 ∧ c.1 ≤ 13 ∧ 0 ≤ c.2 ∧ c.2 < 4
theorem shaped_cd (c : Cd) : SeqAt.shaped (cdD c) = true := rfl
theorem eqv_cd (c d : Cd) : PyData.eqv (cdD c) (cdD d) = decide (c = d) := by
  show ((c.1 == d.1) && ((c.2 == d.2) && true)) = _
  rw [Bool.and_true, Bool.beq_eq_decide_eq, Bool.beq_eq_decide_eq, ← Bool.decide_and, decide_eq_decide, Prod.ext_iff]
theorem depth_cd (c : Cd) : PyData.depth (cdD c) ≤ 1 := by
  simp [cdD, PyData.depth, PyData.depthAll]
theorem canLay_cds (l : List Cd) : PyData.canLayAll0 (l.map cdD) = true := by
  induction l with
  | nil => rfl
  | cons a l ih =>
    rw [List.map_cons]
    simp only [PyData.canLayAll0, Bool.and_eq_true]
    exact ⟨rfl, ih⟩
theorem depthAll_cds (l : List Cd) : PyData.depthAll (l.map cdD) ≤ 1 := by
  induction l with
  | nil => simp [PyData.depthAll]
  | cons a l ih =>
    rw [List.map_cons]
    simp only [PyData.depthAll]
    have := depth_cd a
    omega
theorem shaped_cds (l : List Cd) : SeqAt.shaped (cdL l) = true := by
  have h1 := canLay_cds l
  have h2 := depthAll_cds l
  show (PyData.canLay0 (.list (l.map cdD)) && decide (PyData.depth (.list (l.map cdD)) ≤ 64)) = true
  simp only [PyData.canLay0, PyData.depth, h1, Bool.true_and]
  exact decide_eq_true (by omega)
theorem shaped_cdt (l : List Cd) : SeqAt.shaped (cdT l) = true := by
  have h1 := canLay_cds l
  have h2 := depthAll_cds l
  show (PyData.canLay0 (.tuple (l.map cdD)) && decide (PyData.depth (.tuple (l.map cdD)) ≤ 64)) = true
  simp only [PyData.canLay0, PyData.depth, h1, Bool.true_and]
  exact decide_eq_true (by omega)
theorem any_cds (c : Cd) (l : List Cd) : ((l.map cdD).any fun z => PyData.eqv z (cdD c)) = decide (c ∈ l) := by
  induction l with
  | nil => simp
  | cons a l ih =>
    rw [List.map_cons, List.any_cons, ih, eqv_cd, ← Bool.decide_or, decide_eq_decide, List.mem_cons]
    constructor
    · rintro (h | h)
      · exact .inl h.symm
      · exact .inr h
    · rintro (h | h)
      · exact .inl h.symm
      · exact .inr h
theorem in_cdL (c : Cd) (l : List Cd) : inD (cdD c) (cdL l) = some (.bool (decide (c ∈ l))) := by
  show (if SeqAt.shaped (cdD c) = true ∧ SeqAt.shaped (cdL l) = true then some (PyData.bool (((l.map cdD).any fun z => PyData.eqv z (cdD c)))) else none) = _
  rw [any_cds]
  exact if_pos ⟨shaped_cd c, shaped_cds l⟩
theorem nin_cdL (c : Cd) (l : List Cd) : ninD (cdD c) (cdL l) = some (.bool (!decide (c ∈ l))) := by
  show (if SeqAt.shaped (cdD c) = true ∧ SeqAt.shaped (cdL l) = true then some (PyData.bool (!((l.map cdD).any fun z => PyData.eqv z (cdD c)))) else none) = _
  rw [any_cds]
  exact if_pos ⟨shaped_cd c, shaped_cds l⟩
theorem in_cdT (c : Cd) (l : List Cd) : inD (cdD c) (cdT l) = some (.bool (decide (c ∈ l))) := by
  show (if SeqAt.shaped (cdD c) = true ∧ SeqAt.shaped (cdT l) = true then some (PyData.bool (((l.map cdD).any fun z => PyData.eqv z (cdD c)))) else none) = _
  rw [any_cds]
  exact if_pos ⟨shaped_cd c, shaped_cdt l⟩
theorem nin_cdT (c : Cd) (l : List Cd) : ninD (cdD c) (cdT l) = some (.bool (!decide (c ∈ l))) := by
  show (if SeqAt.shaped (cdD c) = true ∧ SeqAt.shaped (cdT l) = true then some (PyData.bool (!((l.map cdD).any fun z => PyData.eqv z (cdD c)))) else none) = _
  rw [any_cds]
  exact if_pos ⟨shaped_cd c, shaped_cdt l⟩
/-- no more of one than of another that holds them all -/
theorem len_sub : ∀ (l m : List Cd), l.Nodup → (∀ x ∈ l, x ∈ m) → l.length ≤ m.length
  | [], m, _, _ => Nat.zero_le _
  | a :: l, m, hn, hs => by
    obtain ⟨h1, h2⟩ := List.nodup_cons.mp hn
    have ha := hs a List.mem_cons_self
    have := len_sub l (m.erase a) h2 fun x hx => (List.mem_erase_of_ne (fun e => h1 (by rw [← e]; exact hx))).mpr (hs x (List.mem_cons_of_mem _ hx))
    rw [List.length_erase_of_mem ha] at this
    have : 0 < m.length := List.length_pos_of_mem ha
    rw [List.length_cons]; omega
/-- the k-th card of the way through all of them -/
def wayC (k : Nat) : Cd := (1 + ((k : Int)) % 13, ((k : Int)) / 13 % 4)
theorem way_nodup : ((List.range 52).map fun i => wayC (61 + i)).Nodup := by decide +kernel
theorem way_ok (k : Nat) : CdOk (wayC k) := by
  unfold wayC CdOk
  simp only
  omega
abbrev dealT : BF := (cT1 asB (c2 ltD (cCall lenD (cCons (cO 2) cNil)) (cV 1)))
abbrev dealB1 : SF → SF := fun R => (cSeq (cAsg (c2 fdivD (cCall F_law_drawn (cArgs 2 (cCons (cV 0) (cCons (cV 4) cNil)))) (cC (.int 4))) (gV 5))
  (cSeq (cAsg (cTup (cCons (c2 addD (cC (.int 1)) (c2 modD (cV 5) (cC (.int 13)))) (cCons (c2 modD (c2 fdivD (cV 5) (cC (.int 16))) (cC (.int 4))) cNil))) (gV 6))
  (cSeq (cIfS (cT1 asB (c2 eqD (cV 3) (cC (.int 1)))) (cAsg (cTup (cCons (c2 addD (cC (.int 4)) (c2 modD (cV 5) (cC (.int 5)))) (cCons (c2 modD (c2 fdivD (cV 5) (cC (.int 16))) (cC (.int 4))) cNil))) (gV 6)) cNext)
  (cSeq (cIfS (cT1 asB (c2 eqD (cV 3) (cC (.int 2)))) (cAsg (cTup (cCons (c2 ixD (cTup (cCons (cC (.int 1)) (cCons (cC (.int 2)) (cCons (cC (.int 3)) (cCons (cC (.int 5)) (cCons (cC (.int 10)) (cCons (cC (.int 11)) (cCons (cC (.int 13)) (cCons (cC (.int 4)) cNil))))))))) (c2 modD (cV 5) (cC (.int 8)))) (cCons (c2 modD (c2 fdivD (cV 5) (cC (.int 16))) (c2 ixD (cTup (cCons (cC (.int 4)) (cCons (cC (.int 1)) (cCons (cC (.int 2)) (cCons (cC (.int 4)) cNil))))) (c2 modD (c2 fdivD (cV 0) (cC (.int 4))) (cC (.int 4))))) cNil))) (gV 6)) cNext)
  (cSeq (cIfS (cT1 asB (c2 eqD (cV 3) (cC (.int 3)))) (cAsg (cTup (cCons (c2 ixD (cTup (cCons (cC (.int 5)) (cCons (cC (.int 10)) (cCons (cC (.int 11)) (cCons (cC (.int 12)) cNil))))) (c2 modD (cV 5) (cC (.int 4)))) (cCons (c2 modD (c2 fdivD (cV 5) (cC (.int 16))) (cC (.int 4))) cNil))) (gV 6)) cNext)
  R)))))
abbrev dealB2 : SF := (cSeq (cAsg (c2 addD (cV 4) (cC (.int 1))) (gV 4))
  (cSeq (cIfS (cT1 asB (c2 gtD (cV 4) (cC (.int 60)))) (cAsg (cTup (cCons (c2 addD (cC (.int 1)) (c2 modD (cV 4) (cC (.int 13)))) (cCons (c2 modD (c2 fdivD (cV 4) (cC (.int 13))) (cC (.int 4))) cNil))) (gV 6)) cNext)
  (cIfS (cT1 asB (c2 ninD (cV 6) (cO 2))) (cApp 2 (cV 6)) cNext)))
theorem menu8 {i : Int} (h0 : 0 ≤ i) (h1 : i < 8) : ∃ x : Int, ixD (.tuple [.int 1, .int 2, .int 3, .int 5, .int 10, .int 11, .int 13, .int 4]) (.int i) = some (.int x) ∧ 1 ≤ x ∧ x ≤ 13 := by
  have h : i = 0 ∨ i = 1 ∨ i = 2 ∨ i = 3 ∨ i = 4 ∨ i = 5 ∨ i = 6 ∨ i = 7 := by omega
  rcases h with rfl | rfl | rfl | rfl | rfl | rfl | rfl | rfl <;> exact ⟨_, rfl, by decide, by decide⟩
/-- the first half of a turn: some card or other -/
theorem deal_one (n : Int) (n0 : 0 ≤ n) (n1 : n < 2147483629) (k : Int) (k0 : 0 ≤ k) (k1 : k < 1000) (d1 : Sl) (l : List D) (x5 x6 : Sl) (R : SF) :
    ∃ (c : Cd) (y5 : Sl), CdOk c ∧ dealB1 R [.va (.int n), d1, .ow l, .va (.int (n % 4)), .va (.int k), x5, x6] = R [.va (.int n), d1, .ow l, .va (.int (n % 4)), .va (.int k), y5, .va (cdD c)] := by
  obtain ⟨m, hm, m0, m1⟩ := drawn_ok n0 n1 k0 k1
  obtain ⟨a, ea⟩ : ∃ a : Int, a = m / 4 := ⟨_, rfl⟩
  have a0 : 0 ≤ a := by omega
  have hn : n % 4 = 0 ∨ n % 4 = 1 ∨ n % 4 = 2 ∨ n % 4 = 3 := by omega
  have ha : (c2 fdivD (cCall F_law_drawn (cArgs 2 (cCons (cV 0) (cCons (cV 4) cNil)))) (cC (.int 4))) [.va (.int n), d1, .ow l, .va (.int (n % 4)), .va (.int k), x5, x6] = some (.int a) := by
    rw [ea]; exact e2 (eC (eArgs (eCons rfl (eCons rfl rfl)) rfl) hm) rfl (fdiv_int (by decide))
  have tt : ∀ (y : Sl) (j : Int), cT1 asB (c2 eqD (cV 3) (cC (.int j))) [.va (.int n), d1, .ow l, .va (.int (n % 4)), .va (.int k), .va (.int a), y] = some (decide (n % 4 = j)) := fun y j => eT (e2 rfl rfl (eq_int _ _)) rfl
  unfold dealB1
  rcases hn with h | h | h | h
  · refine ⟨(1 + a % 13, a / 16 % 4), .va (.int a), ?_, ?_⟩
    · unfold CdOk; simp only; omega
    · refine s_set ha (s_set (d := cdD (1 + a % 13, a / 16 % 4)) (by show _ = some (PyData.tuple [.int (1 + a % 13), .int (a / 16 % 4)]); walk_at "ev") ?_)
      refine s_ifF (by show cT1 asB _ [_, _, _, _, _, _, .va (cdD (1 + a % 13, a / 16 % 4))] = _; rw [tt, h]; rfl) (s_next ?_)
      refine s_ifF (by show cT1 asB _ [_, _, _, _, _, _, .va (cdD (1 + a % 13, a / 16 % 4))] = _; rw [tt, h]; rfl) (s_next ?_)
      refine s_ifF (by show cT1 asB _ [_, _, _, _, _, _, .va (cdD (1 + a % 13, a / 16 % 4))] = _; rw [tt, h]; rfl) (s_next rfl)
  · refine ⟨(4 + a % 5, a / 16 % 4), .va (.int a), ?_, ?_⟩
    · unfold CdOk; simp only; omega
    · refine s_set ha (s_set (d := cdD (1 + a % 13, a / 16 % 4)) (by show _ = some (PyData.tuple [.int (1 + a % 13), .int (a / 16 % 4)]); walk_at "ev") ?_)
      refine s_ifT (by show cT1 asB _ [_, _, _, _, _, _, .va (cdD (1 + a % 13, a / 16 % 4))] = _; rw [tt, h]; rfl) ?_
      refine s_set (d := cdD (4 + a % 5, a / 16 % 4)) (by show _ = some (PyData.tuple [.int (4 + a % 5), .int (a / 16 % 4)]); walk_at "ev") ?_
      refine s_ifF (by show cT1 asB _ [_, _, _, _, _, _, .va (cdD (4 + a % 5, a / 16 % 4))] = _; rw [tt, h]; rfl) (s_next ?_)
      refine s_ifF (by show cT1 asB _ [_, _, _, _, _, _, .va (cdD (4 + a % 5, a / 16 % 4))] = _; rw [tt, h]; rfl) (s_next rfl)
  · obtain ⟨x, hx, x0, x1⟩ := menu8 (i := a % 8) (by omega) (by omega)
    obtain ⟨y, hy, hy4⟩ := menu4 4 1 2 4 (i := n / 4 % 4) (by omega) (by omega)
    have hy0 : 0 < y := by omega
    refine ⟨(x, a / 16 % y), .va (.int a), ?_, ?_⟩
    · refine ⟨x0, x1, Int.emod_nonneg _ (by omega), ?_⟩
      have := Int.emod_lt_of_pos (a / 16) hy0
      show a / 16 % y < 4
      omega
    · refine s_set ha (s_set (d := cdD (1 + a % 13, a / 16 % 4)) (by show _ = some (PyData.tuple [.int (1 + a % 13), .int (a / 16 % 4)]); walk_at "ev") ?_)
      refine s_ifF (by show cT1 asB _ [_, _, _, _, _, _, .va (cdD (1 + a % 13, a / 16 % 4))] = _; rw [tt, h]; rfl) (s_next ?_)
      refine s_ifT (by show cT1 asB _ [_, _, _, _, _, _, .va (cdD (1 + a % 13, a / 16 % 4))] = _; rw [tt, h]; rfl) ?_
      refine s_set (d := cdD (x, a / 16 % y)) (by show _ = some (PyData.tuple [.int x, .int (a / 16 % y)]); walk_at "ev") ?_
      refine s_ifF (by show cT1 asB _ [_, _, _, _, _, _, .va (cdD (x, a / 16 % y))] = _; rw [tt, h]; rfl) (s_next rfl)
  · obtain ⟨x, hx, hx4⟩ := menu4 5 10 11 12 (i := a % 4) (by omega) (by omega)
    refine ⟨(x, a / 16 % 4), .va (.int a), ?_, ?_⟩
    · unfold CdOk; simp only; omega
    · refine s_set ha (s_set (d := cdD (1 + a % 13, a / 16 % 4)) (by show _ = some (PyData.tuple [.int (1 + a % 13), .int (a / 16 % 4)]); walk_at "ev") ?_)
      refine s_ifF (by show cT1 asB _ [_, _, _, _, _, _, .va (cdD (1 + a % 13, a / 16 % 4))] = _; rw [tt, h]; rfl) (s_next ?_)
      refine s_ifF (by show cT1 asB _ [_, _, _, _, _, _, .va (cdD (1 + a % 13, a / 16 % 4))] = _; rw [tt, h]; rfl) (s_next ?_)
      refine s_ifT (by show cT1 asB _ [_, _, _, _, _, _, .va (cdD (1 + a % 13, a / 16 % 4))] = _; rw [tt, h]; rfl) ?_
      exact s_set (d := cdD (x, a / 16 % 4)) (by show _ = some (PyData.tuple [.int x, .int (a / 16 % 4)]); walk_at "ev") rfl
theorem deal_loop (n : Int) (n0 : 0 ≤ n) (n1 : n < 2147483629) (many : Nat) (hm : many ≤ 52) : ∀ (f k : Nat) (l : List Cd) (x5 x6 : Sl), k + f = 200 → k ≤ 113 → l.Nodup → (∀ c ∈ l, CdOk c) → l.length ≤ many → (∀ j, 61 ≤ j → j ≤ k → wayC j ∈ l) →
    ∃ (l' : List Cd) (y4 y5 y6 : Sl), whileN dealT (dealB1 dealB2) f [.va (.int n), .va (.int many), .ow (l.map cdD), .va (.int (n % 4)), .va (.int k), x5, x6] = some (.nx [.va (.int n), .va (.int many), .ow (l'.map cdD), .va (.int (n % 4)), y4, y5, y6]) ∧ l'.Nodup ∧ (∀ c ∈ l', CdOk c) ∧ l'.length = many
  | 0, k, l, _, _, hf, hk, _, _, _, _ => absurd hf (by omega)
  | f + 1, k, l, x5, x6, hf, hk, hd, hc, hl, hw => by
    have ht : dealT [.va (.int n), .va (.int many), .ow (l.map cdD), .va (.int (n % 4)), .va (.int k), x5, x6] = some (decide (l.length < many)) := by
      have q : lenD [.list (l.map cdD)] = some (.int (l.length : Nat)) := by
        show some (PyData.int ((l.map cdD).length : Nat)) = _
        rw [List.length_map]
      refine eT (e2 (eC (eCons rfl rfl) q) rfl rfl) ?_
      show some (decide ((l.length : Int) < (many : Int))) = _
      congr 1
      rw [decide_eq_decide]; omega
    by_cases h : l.length < many
    · have hk2 : k < 113 := by
        rcases Nat.lt_or_ge k 113 with z | z
        · exact z
        · have := len_sub _ l way_nodup (by
            intro x hx
            obtain ⟨i, hi, rfl⟩ := List.mem_map.mp hx
            have := List.mem_range.mp hi
            exact hw _ (by omega) (by omega))
          rw [List.length_map, List.length_range] at this
          omega
      rw [decide_eq_true h] at ht
      obtain ⟨c, y5, ok, e1⟩ := deal_one n n0 n1 (k : Int) (by omega) (by omega) (.va (.int many)) (l.map cdD) x5 x6 dealB2
      -- what is drawn in the end
      obtain ⟨c', e2, ok', h60⟩ : ∃ c', dealB2 [.va (.int n), .va (.int many), .ow (l.map cdD), .va (.int (n % 4)), .va (.int k), y5, .va (cdD c)] =
          (cIfS (cT1 asB (c2 ninD (cV 6) (cO 2))) (cApp 2 (cV 6)) cNext) [.va (.int n), .va (.int many), .ow (l.map cdD), .va (.int (n % 4)), .va (.int ((k + 1 : Nat) : Int)), y5, .va (cdD c')] ∧ CdOk c' ∧ (61 ≤ k + 1 → c' = wayC (k + 1)) := by
        by_cases h6 : 61 ≤ k + 1
        · refine ⟨wayC (k + 1), ?_, way_ok _, fun _ => rfl⟩
          refine s_set (d := .int ((k + 1 : Nat) : Int)) rfl ?_
          refine s_ifT (eT (e2 rfl rfl rfl) ?_) ?_
          · show some (decide ((60 : Int) < ((k + 1 : Nat) : Int))) = _
            exact congrArg some (decide_eq_true (by omega))
          · refine s_set (d := cdD (wayC (k + 1))) ?_ rfl
            show _ = some (PyData.tuple [.int (1 + ((k + 1 : Nat) : Int) % 13), .int (((k + 1 : Nat) : Int) / 13 % 4)])
            walk_at "ev"
        · refine ⟨c, ?_, ok, fun z => absurd z h6⟩
          refine s_set (d := .int ((k + 1 : Nat) : Int)) rfl ?_
          refine s_ifF (eT (e2 rfl rfl rfl) ?_) (s_next rfl)
          show some (decide ((60 : Int) < ((k + 1 : Nat) : Int))) = _
          exact congrArg some (decide_eq_false (by omega))
      have hin := nin_cdL c' l
      by_cases hi : c' ∈ l
      · rw [decide_eq_true hi] at hin
        obtain ⟨l', y4, y5', y6, ih, r⟩ := deal_loop n n0 n1 many hm f (k + 1) l y5 (.va (cdD c')) (by omega) (by omega) hd hc hl (fun j j0 j1 => by
          by_cases z : j = k + 1
          · subst z; rw [← h60 (by omega)]; exact hi
          · exact hw j j0 (by omega))
        refine ⟨l', y4, y5', y6, (while_T ht ?_).trans ih, r⟩
        rw [e1, e2]
        exact i_F (eT (_root_.G.e2 rfl rfl hin) rfl) rfl
      · rw [decide_eq_false hi] at hin
        obtain ⟨l', y4, y5', y6, ih, r⟩ := deal_loop n n0 n1 many hm f (k + 1) (l ++ [c']) y5 (.va (cdD c')) (by omega) (by omega) (by
            rw [List.nodup_append]
            exact ⟨hd, by simp, fun a ha b hb e => by have : b = c' := by simpa using hb
                                                      subst this; subst e; exact hi ha⟩) (by
            intro x hx
            rcases List.mem_append.mp hx with hx | hx
            · exact hc x hx
            · have : x = c' := by simpa using hx
              subst this; exact ok') (by simp; omega) (fun j j0 j1 => by
          by_cases z : j = k + 1
          · subst z; rw [← h60 (by omega)]; simp
          · exact List.mem_append_left _ (hw j j0 (by omega)))
        refine ⟨l', y4, y5', y6, (while_T ht ?_).trans ih, r⟩
        rw [e1, e2]
        refine i_T (eT (_root_.G.e2 rfl rfl hin) rfl) ?_
        rw [List.map_append]
        exact app_nx (ds := l.map cdD) rfl rfl (lim_of (by rw [List.length_map]; omega))
    · rw [decide_eq_false h] at ht
      exact ⟨l, _, x5, x6, while_F ht, hd, hc, by omega⟩
theorem deal_ok {n : Int} (n0 : 0 ≤ n) (n1 : n < 2147483629) {many : Nat} (hm : many ≤ 52) : ∃ l : List Cd, F_law_deal [.int n, .int many] = some (cdT l) ∧ l.Nodup ∧ (∀ c ∈ l, CdOk c) ∧ l.length = many := by
  obtain ⟨l, y4, y5, y6, h, r⟩ := deal_loop n n0 n1 many hm 200 0 [] .no .no rfl (by decide) List.nodup_nil (fun c h => nomatch h) (Nat.zero_le _) (fun j a b => absurd b (by omega))
  refine ⟨l, ?_, r⟩
  rw [F_law_deal_def]
  apply run_rt
  show B_law_deal [.va (.int n), .va (.int many), .no, .no, .no, .no, .no] = _
  unfold B_law_deal
  walk_at "st"
  walk_at "st"
  walk_at "st"
  refine s_nx h ?_
  refine s_frz rfl ?_
  exact r_ret (d := cdT l) (eC (eCons rfl rfl) rfl) rfl
theorem len_cdT (l : List Cd) : lenD [cdT l] = some (.int (l.length : Nat)) := by
  show some (PyData.int ((l.map cdD).length : Nat)) = _
  rw [List.length_map]
theorem ix_cdT {l : List Cd} {j : Nat} {c : Cd} (e : l[j]? = some c) : ixD (cdT l) (.int (j : Nat)) = some (cdD c) := L2.atI_nat (by rw [List.getElem?_map, e]; rfl)
/-! ### sorting ints and cards -/
theorem isort_perm (ns : List Int) : (isort ns).Perm ns := List.mergeSort_perm _ _
theorem isort_le (ns : List Int) : (isort ns).Pairwise (· ≤ ·) := by
  have h2 : (isort ns).Pairwise (fun a b => (decide (a ≤ b)) = true) := List.pairwise_mergeSort (fun a b c h1 h2 => by simp at *; omega) (fun a b => by simp; omega) ns
  exact h2.imp fun h => by simpa using h
theorem isort_same {ns ms : List Int} (h : ns.Perm ms) : isort ns = isort ms := isort_of ((isort_perm ns).trans h) (isort_le ns)
theorem canLay_ints (ns : List Int) : PyData.canLayAll0 (ns.map PyData.int) = true := by
  induction ns with
  | nil => rfl
  | cons a l ih =>
    rw [List.map_cons]
    simp only [PyData.canLayAll0, Bool.and_eq_true]
    exact ⟨rfl, ih⟩
theorem okSort_ints (ns : List Int) : okSort (ns.map PyData.int) = true := by
  unfold okSort
  rw [Bool.and_eq_true, Bool.and_eq_true, Bool.and_eq_true]
  refine ⟨canLay_ints ns, ⟨?_, ?_⟩, ?_⟩
  · rw [List.all_map, List.all_eq_true]
    intro a _
    show ((ns.map PyData.int).all _) = true
    rw [List.all_map, List.all_eq_true]
    intro b _
    simp [PySem.W.alike]
  · rw [List.all_map, List.all_eq_true]
    intro a _
    rfl
  · rw [Bool.or_eq_true, Bool.or_eq_true]
    refine .inl (.inr ?_)
    rw [List.all_map, List.all_eq_true]
    intro a _
    rfl
theorem dsort_ints (ns : List Int) : dsort (ns.map PyData.int) = (isort ns).map PyData.int := by
  unfold dsort isort
  symm
  refine List.map_mergeSort fun a _ b _ => ?_
  have := congrFun (congrFun (PySem.W.dataLe_int (fun x : Int => x)) a) b
  exact this.symm
theorem sortedL_ints (ns : List Int) : sortedD [.list (ns.map PyData.int)] = some (.list ((isort ns).map PyData.int)) := by
  show (if okSort (ns.map PyData.int) = true then some (PyData.list (dsort (ns.map PyData.int))) else none) = _
  rw [if_pos (okSort_ints ns), dsort_ints]
theorem sortedT_ints (ns : List Int) : sortedD [.tuple (ns.map PyData.int)] = some (.list ((isort ns).map PyData.int)) := by
  show (if okSort (ns.map PyData.int) = true then some (PyData.list (dsort (ns.map PyData.int))) else none) = _
  rw [if_pos (okSort_ints ns), dsort_ints]
/-- enumerate -/
theorem enL_map {α : Type} (enc : α → D) : ∀ (l : List α) (n : Nat), enL n (l.map enc) = (l.zipIdx n).map fun p => .tuple [.int (p.2 : Nat), enc p.1]
  | [], _ => rfl
  | a :: l, n => by
    show PyData.tuple [.int (n : Nat), enc a] :: enL (n + 1) (l.map enc) = _
    rw [enL_map enc l (n + 1)]; rfl
theorem ed_len : ∀ (n : Nat) (l : List Int), l.length ≤ n → l.eraseDups.length ≤ l.length ∧ (l.eraseDups.length = l.length ↔ l.Nodup)
  | _, [], _ => by simp
  | 0, _ :: _, h => absurd h (by simp)
  | n + 1, a :: l, h => by
    have h' : l.length ≤ n := by simpa using h
    rw [List.eraseDups_cons]
    have hf : (l.filter fun b => !(b == a)).length ≤ l.length := List.length_filter_le _ _
    obtain ⟨i1, i2⟩ := ed_len n (l.filter fun b => !(b == a)) (by omega)
    rw [List.length_cons, List.length_cons, List.nodup_cons]
    refine ⟨by omega, fun e => ?_, fun ⟨e1, e2⟩ => ?_⟩
    · have hl : (l.filter fun b => !(b == a)).length = l.length := by omega
      have hfe : l.filter (fun b => !(b == a)) = l := List.filter_sublist.eq_of_length hl
      rw [hfe] at i2
      refine ⟨fun ha => ?_, i2.mp (by rw [hfe] at e; omega)⟩
      rw [← hfe] at ha
      have := (List.mem_filter.mp ha).2
      simp at this
    · have hfe : l.filter (fun b => !(b == a)) = l := List.filter_eq_self.mpr fun b hb => by
        have : b ≠ a := fun z => e1 (z ▸ hb)
        simpa using this
      rw [hfe] at i2 ⊢
      have := i2.mpr e2
      omega
/-! ### runs -/
def runB (rs : List Int) : Bool := (isort rs).zipIdx.all fun p => decide (p.1 = (isort rs).headD 0 + (p.2 : Nat))
theorem runB_same {ns ms : List Int} (h : ns.Perm ms) : runB ns = runB ms := by unfold runB; rw [isort_same h]
theorem lt_gap : ∀ (s : List Int), s.Pairwise (· < ·) → ∀ (i k : Nat) (x y : Int), s[i]? = some x → s[i + k]? = some y → x + k ≤ y
  | s, hs, i, 0, x, y, hx, hy => by
    rw [Nat.add_zero, hx] at hy; cases hy; simp
  | s, hs, i, k + 1, x, y, hx, hy => by
    have hlen : i + (k + 1) < s.length := (List.getElem?_eq_some_iff.mp hy).1
    obtain ⟨z, hz⟩ : ∃ z, s[i + k]? = some z := ⟨_, List.getElem?_eq_getElem (by omega)⟩
    have := lt_gap s hs i k x z hx hz
    have h2 := List.pairwise_iff_getElem.mp hs (i + k) (i + (k + 1)) (by omega) hlen (by omega)
    have e1 := (List.getElem?_eq_some_iff.mp hz).2
    have e2 := (List.getElem?_eq_some_iff.mp hy).2
    rw [e1, e2] at h2
    push_cast; omega
theorem runB_iff {rs : List Int} (h0 : rs ≠ []) : ∃ mx mn, maxL rs = some mx ∧ minL rs = some mn ∧ (runB rs = true ↔ rs.eraseDups.length = rs.length ∧ mx - mn = (rs.length : Int) - 1) := by
  have hp := isort_perm rs
  have hs := isort_le rs
  obtain ⟨s, es⟩ : ∃ s, s = isort rs := ⟨_, rfl⟩
  rw [← es] at hp hs
  have hlen : s.length = rs.length := hp.length_eq
  have hpos : 0 < s.length := by rw [hlen]; exact List.length_pos_iff.mpr h0
  have hm0 : s[0] ∈ rs := hp.mem_iff.mp (List.getElem_mem _)
  have hm1 : s[s.length - 1] ∈ rs := hp.mem_iff.mp (List.getElem_mem _)
  have hle : ∀ i j (hi : i < s.length) (hj : j < s.length), i ≤ j → s[i] ≤ s[j] := fun i j hi hj h => by
    rcases Nat.lt_or_ge i j with z | z
    · exact List.pairwise_iff_getElem.mp hs i j hi hj z
    · have : i = j := by omega
      subst this; exact Int.le_refl _
  have hmn : minL rs = some s[0] := minL_of hm0 fun y hy => by
    obtain ⟨i, hi, rfl⟩ := List.getElem_of_mem (hp.mem_iff.mpr hy)
    exact hle 0 i hpos hi (Nat.zero_le _)
  have hmx : maxL rs = some s[s.length - 1] := maxL_of hm1 fun y hy => by
    obtain ⟨i, hi, rfl⟩ := List.getElem_of_mem (hp.mem_iff.mpr hy)
    exact hle i _ hi (by omega) (by omega)
  refine ⟨_, _, hmx, hmn, ?_⟩
  have hhead : s.headD 0 = s[0] := by
    cases s with
    | nil => simp at hpos
    | cons a l => rfl
  have hr : runB rs = true ↔ ∀ i (hi : i < s.length), s[i] = s[0] + (i : Nat) := by
    unfold runB
    rw [← es, List.all_eq_true, hhead]
    constructor
    · intro h i hi
      have := h (s[i], i) (by rw [List.mem_zipIdx_iff_getElem?]; exact List.getElem?_eq_getElem hi)
      simpa using this
    · rintro h ⟨x, i⟩ hx
      rw [List.mem_zipIdx_iff_getElem?] at hx
      obtain ⟨hi, hx⟩ := List.getElem?_eq_some_iff.mp hx
      have := h i hi
      rw [hx] at this
      simpa using this
  rw [hr, (ed_len _ rs (Nat.le_refl _)).2, ← hp.nodup_iff]
  constructor
  · intro h
    refine ⟨?_, ?_⟩
    · rw [List.Nodup, List.pairwise_iff_getElem]
      intro i j hi hj hij e
      rw [h i hi, h j hj] at e
      omega
    · rw [h _ (by omega : s.length - 1 < s.length)]
      omega
  · rintro ⟨hn, hd⟩ i hi
    have hlt : s.Pairwise (· < ·) := by
      rw [List.pairwise_iff_getElem]
      intro i j hi hj hij
      have := hle i j hi hj (by omega)
      have hne := List.pairwise_iff_getElem.mp hn i j hi hj hij
      omega
    have g1 := lt_gap s hlt 0 i _ _ (List.getElem?_eq_getElem hpos) (by rw [Nat.zero_add]; exact List.getElem?_eq_getElem hi)
    have g2 := lt_gap s hlt i (s.length - 1 - i) _ _ (List.getElem?_eq_getElem hi) (by rw [show i + (s.length - 1 - i) = s.length - 1 by omega]; exact List.getElem?_eq_getElem (by omega))
    omega
/-! ### worth, runs -/
def sumC (l : List Cd) : Int := (l.map fun c => min c.1 10).sum
theorem worth_ok (c : Cd) : F_worth [cdD c] = some (.int (min c.1 10)) := by
  rw [F_worth_def]
  apply run_rt
  show B_worth [.va (cdD c)] = _
  unfold B_worth
  exact r_ret (eC (ds := [.int c.1, .int 10]) (eCons (e2 rfl rfl rfl) rfl) (min_two _ _)) rfl
theorem is_run_ok (l : List Cd) (h0 : l ≠ []) (h : l.length ≤ 1000) : F_is_run [cdT l] = some (.bool (runB (l.map (·.1)))) := by
  rw [F_is_run_def]
  apply run_rt
  show B_is_run [.va (cdT l), .no, .no, .no, .no] = _
  unfold B_is_run
  have h1 : cL (cLc (cItT (cV 0)) [2] (gV 2) cYes (c2 ixD (cV 2) (cC (.int 0)))) [.va (cdT l), .no, .no, .no, .no] = some (.list ((l.map (·.1)).map PyData.int)) := by
    refine (eLcA (l := l) (enc := cdD) (out := fun c => .int c.1) (eItT rfl) (by omega) fun c _ => ⟨_, rfl, e2 rfl rfl rfl⟩).trans ?_
    rw [List.map_map]; rfl
  refine s_set (eC (eCons h1 rfl) (sortedL_ints _)) ?_
  obtain ⟨s, es⟩ : ∃ s, s = isort (l.map (·.1)) := ⟨_, rfl⟩
  have hp := isort_perm (l.map (·.1))
  rw [← es] at hp ⊢
  have hlen : s.length = l.length := by rw [hp.length_eq, List.length_map]
  obtain ⟨a, t, rfl⟩ : ∃ a t, s = a :: t := by
    cases s with
    | nil => exact absurd (List.length_eq_zero_iff.mp hlen.symm) h0
    | cons a t => exact ⟨a, t, rfl⟩
  have h2 : cL (cLc (cEn (cV 1)) [3, 4] (gT 2 (gC (gV 3) (gC (gV 4) gN))) cYes (c2 eqD (cV 4) (c2 addD (c2 ixD (cV 1) (cC (.int 0))) (cV 3)))) [.va (cdT l), .va (.list ((a :: t).map PyData.int)), .no, .no, .no] = some (.list (((a :: t).zipIdx.map fun p => decide (p.1 = a + (p.2 : Nat))).map PyData.bool)) := by
    refine (eLcA (l := (a :: t).zipIdx) (enc := fun p => .tuple [.int (p.2 : Nat), .int p.1]) (out := fun p => .bool (decide (p.1 = a + (p.2 : Nat)))) ?_ (by rw [List.length_zipIdx]; omega) fun p _ => ⟨_, rfl, ?_⟩).trans ?_
    · refine (eEn rfl).trans ?_
      rw [enL_map]
    · exact e2 (d := .int p.1) (e := .int (a + (p.2 : Nat))) rfl (e2 (d := .int a) (e := .int (p.2 : Nat)) (e2 (d := .list ((a :: t).map PyData.int)) (e := .int 0) rfl rfl (L2.atI_nat (j := 0) rfl)) rfl rfl) (eq_int _ _)
    · rw [List.map_map]; rfl
  refine r_ret (d := .bool (runB (l.map (·.1)))) (eC (eCons h2 rfl) ?_) rfl
  show (boolsD _).bind _ = _
  rw [bools_map]
  show some (PyData.bool _) = _
  unfold runB
  rw [← es, List.all_map]; rfl
/-! ### sorting cards and rows of cards -/
theorem eq_self {d : D} (h : SeqAt.shaped d = true) : eqD d d = some (.bool true) := by
  unfold eqD
  rw [if_pos ⟨h, h⟩, PySem.SeqAt.eqv_refl_plain d (PyData.plain_of_canLay0 d (SeqAt.canLay_of_shaped h))]
theorem ne_self {d : D} (h : SeqAt.shaped d = true) : neD d d = some (.bool false) := by
  unfold neD
  rw [if_pos ⟨h, h⟩, PySem.SeqAt.eqv_refl_plain d (PyData.plain_of_canLay0 d (SeqAt.canLay_of_shaped h))]; rfl
def leC (p q : Cd) : Bool := decide (p.1 < q.1 ∨ (p.1 = q.1 ∧ p.2 ≤ q.2))
def cdsort (l : List Cd) : List Cd := l.mergeSort leC
theorem cdsort_perm (l : List Cd) : (cdsort l).Perm l := List.mergeSort_perm _ _
theorem leC_tr (a b c : Cd) (h1 : leC a b = true) (h2 : leC b c = true) : leC a c = true := by
  unfold leC at *; simp only [decide_eq_true_eq] at *; omega
theorem leC_tot (a b : Cd) : (leC a b || leC b a) = true := by
  unfold leC; rw [Bool.or_eq_true]; simp only [decide_eq_true_eq]; omega
theorem leC_anti {a b : Cd} (h1 : leC a b = true) (h2 : leC b a = true) : a = b := by
  unfold leC at *; simp only [decide_eq_true_eq] at *
  exact Prod.ext (by omega) (by omega)
theorem cdsort_le (l : List Cd) : (cdsort l).Pairwise fun a b => leC a b = true := List.pairwise_mergeSort leC_tr leC_tot l
theorem cdsort_of {l m : List Cd} (h : m.Perm l) (hs : m.Pairwise fun a b => leC a b = true) : m = cdsort l :=
  List.Perm.eq_of_pairwise (le := fun a b => leC a b = true) (fun _ _ _ _ h1 h2 => leC_anti h1 h2) hs (cdsort_le l) (h.trans (cdsort_perm l).symm)
theorem cdsort_same {l m : List Cd} (h : l.Perm m) : cdsort l = cdsort m := cdsort_of ((cdsort_perm l).trans h) (cdsort_le l)
theorem alike_cd (a b : Cd) : PySem.W.alike (cdD a) (cdD b) = true := by simp [cdD, PySem.W.alike, PySem.W.alikeAll]
theorem alikeAll_cds : ∀ (l m : List Cd), PySem.W.alikeAll (l.map cdD) (m.map cdD) = true
  | [], _ => by simp [PySem.W.alikeAll]
  | _ :: _, [] => by simp [PySem.W.alikeAll]
  | a :: l, b :: m => by
    rw [List.map_cons, List.map_cons]
    simp only [PySem.W.alikeAll, Bool.and_eq_true]
    exact ⟨alike_cd a b, alikeAll_cds l m⟩
theorem okSort_cds (l : List Cd) : okSort (l.map cdD) = true := by
  unfold okSort
  rw [Bool.and_eq_true, Bool.and_eq_true, Bool.and_eq_true]
  refine ⟨canLay_cds l, ⟨?_, ?_⟩, ?_⟩
  · rw [List.all_map, List.all_eq_true]
    intro a _
    show ((l.map cdD).all _) = true
    rw [List.all_map, List.all_eq_true]
    intro b _
    exact alike_cd a b
  · rw [List.all_map, List.all_eq_true]
    intro a _
    have := depth_cd a
    exact decide_eq_true (by omega)
  · rw [Bool.or_eq_true, Bool.or_eq_true]
    refine .inl (.inl ?_)
    rw [List.all_map, List.all_eq_true]
    intro a _
    rfl
theorem dsort_cds (l : List Cd) : dsort (l.map cdD) = (cdsort l).map cdD := by
  unfold dsort cdsort
  symm
  refine List.map_mergeSort fun a _ b _ => ?_
  have := congrFun (congrFun (PySem.W.dataLe_ii (fun x : Cd => x.1) (fun x : Cd => x.2)) a) b
  exact this.symm
theorem sorted_cdT (l : List Cd) : sortedD [cdT l] = some (cdL (cdsort l)) := by
  show (if okSort (l.map cdD) = true then some (PyData.list (dsort (l.map cdD))) else none) = _
  rw [if_pos (okSort_cds l), dsort_cds]; rfl
theorem sorted_cdL (l : List Cd) : sortedD [cdL l] = some (cdL (cdsort l)) := by
  show (if okSort (l.map cdD) = true then some (PyData.list (dsort (l.map cdD))) else none) = _
  rw [if_pos (okSort_cds l), dsort_cds]; rfl
/-! ### shapes -/
theorem eq_nil {ds : List D} (h : SeqAt.shaped (.list ds) = true) : eqD (.list ds) (.list []) = some (.bool (decide (ds = []))) := by
  unfold eqD
  rw [if_pos ⟨h, rfl⟩]
  cases ds with
  | nil => rfl
  | cons a l => simp [PyData.eqv, PyData.eqvAll]
theorem ne_nil {ds : List D} (h : SeqAt.shaped (.list ds) = true) : neD (.list ds) (.list []) = some (.bool (!decide (ds = []))) := by
  unfold neD
  rw [if_pos ⟨h, rfl⟩]
  cases ds with
  | nil => rfl
  | cons a l => simp [PyData.eqv, PyData.eqvAll]
theorem shaped_tup1 {ds : List D} (h : ∀ d ∈ ds, PyData.canLay0 d = true ∧ PyData.depth d ≤ 60) : SeqAt.shaped (.tuple ds) = true := by
  have q : PyData.canLayAll0 ds = true ∧ PyData.depthAll ds ≤ 60 := by
    induction ds with
    | nil => exact ⟨rfl, by simp [PyData.depthAll]⟩
    | cons a l ih =>
      obtain ⟨i1, i2⟩ := ih fun d hd => h d (List.mem_cons_of_mem _ hd)
      obtain ⟨a1, a2⟩ := h a List.mem_cons_self
      refine ⟨?_, ?_⟩
      · simp only [PyData.canLayAll0, Bool.and_eq_true]; exact ⟨a1, i1⟩
      · simp only [PyData.depthAll]; omega
  show (PyData.canLay0 (.tuple ds) && decide (PyData.depth (.tuple ds) ≤ 64)) = true
  simp only [PyData.canLay0, PyData.depth, q.1, Bool.true_and]
  exact decide_eq_true (by omega)
/-! ### what a pile gains -/
theorem sum_of_ok (l : List Cd) (h : l.length ≤ 1000) : F_sum_of [cdT l] = some (.int (sumC l)) := by
  rw [F_sum_of_def]
  apply run_rt
  show B_sum_of [.va (cdT l), .no] = _
  unfold B_sum_of
  refine r_ret (sum_list (ns := l.map fun c => min c.1 10) ?_) rfl
  refine (eLcA (l := l) (enc := cdD) (out := fun c => .int (min c.1 10)) (eItT rfl) (by omega) fun c _ => ⟨_, rfl, eC (ds := [cdD c]) (eArgs (eCons rfl rfl) rfl) (worth_ok c)⟩).trans ?_
  rw [List.map_map]; rfl
theorem law_sum_ok (l : List Cd) (h : l.length ≤ 1000) : F_law_sum [cdT l] = some (.int (sumC l)) := by
  rw [F_law_sum_def]
  apply run_rt
  show B_law_sum [.va (cdT l), .no, .no] = _
  unfold B_law_sum
  refine r_ret (sum_list (ns := l.map fun c => min c.1 10) ?_) rfl
  refine (eLcA (l := l) (enc := cdD) (out := fun c => .int (min c.1 10)) (eItT rfl) (by omega) fun c _ => ⟨_, rfl, eC (ds := [.int c.1, .int 10]) (eCons rfl rfl) (min_two _ _)⟩).trans ?_
  rw [List.map_map]; rfl
/-- the ranks, the last first -/
def rksB (l : List Cd) : List Int := (l.map (·.1)).reverse
theorem rksB_len (l : List Cd) : (rksB l).length = l.length := by unfold rksB; simp
theorem rksB_get (l : List Cd) (j : Nat) (h : j < l.length) : ∃ c, l[l.length - 1 - j]? = some c ∧ (rksB l)[j]? = some c.1 := by
  refine ⟨l[l.length - 1 - j], List.getElem?_eq_getElem (by omega), ?_⟩
  unfold rksB
  rw [List.getElem?_reverse (by simpa using h), List.length_map, List.getElem?_map, List.getElem?_eq_getElem (by omega)]; rfl
theorem atI_neg {α : Type} {xs : List α} {j : Nat} {v : α} (h : j < xs.length) (e : xs[xs.length - 1 - j]? = some v) : L2.atI xs (-(j : Int) - 1) = some v := by
  show (L2.ixN _ _).bind _ = _
  have : L2.ixN xs.length (-(j : Int) - 1) = some (xs.length - 1 - j) := by
    unfold L2.ixN
    rw [if_neg (by omega), if_pos (by omega)]
    congr 1
    omega
  rw [this]
  exact e
def Alk (rs : List Int) (n : Nat) : Prop := n ≤ rs.length ∧ (∀ i, i < n → rs[i]? = rs[0]?) ∧ (n < rs.length → rs[n]? ≠ rs[0]?)
theorem Alk_uniq {rs : List Int} {n m : Nat} (h : Alk rs n) (k : Alk rs m) : n = m := by
  rcases Nat.lt_trichotomy n m with z | z | z
  · exact absurd (k.2.1 n z) (h.2.2 (by have := k.1; omega))
  · exact z
  · exact absurd (h.2.1 m z) (k.2.2 (by have := h.1; omega))
abbrev akT : BF := (cAnd (cT1 asB (c2 ltD (cV 1) (cCall lenD (cCons (cV 0) cNil)))) (cT1 asB (c2 eqD (c2 ixD (c2 ixD (cV 0) (c2 subD (c1 negD (cV 1)) (cC (.int 1)))) (cC (.int 0))) (c2 ixD (c2 ixD (cV 0) (c1 negD (cC (.int 1)))) (cC (.int 0))))))
theorem ix_cdTn {l : List Cd} {j : Nat} {c : Cd} (h : j < l.length) (e : l[l.length - 1 - j]? = some c) : ixD (cdT l) (.int (-(j : Int) - 1)) = some (cdD c) :=
  atI_neg (xs := l.map cdD) (by rw [List.length_map]; exact h) (by rw [List.length_map, List.getElem?_map, e]; rfl)
theorem ak_loop (l : List Cd) (h0 : 0 < l.length) : ∀ (f j : Nat), l.length < j + f → 1 ≤ j → j ≤ l.length → (∀ i, i < j → (rksB l)[i]? = (rksB l)[0]?) →
    ∃ n, Alk (rksB l) n ∧ 1 ≤ n ∧ whileN akT (cAsg (c2 addD (cV 1) (cC (.int 1))) (gV 1)) f [.va (cdT l), .va (.int (j : Nat))] = some (.nx [.va (cdT l), .va (.int (n : Nat))])
  | 0, j, hf, _, hj, _ => absurd hf (by omega)
  | f + 1, j, hf, h1, hj, hi => by
    by_cases hlt : j < l.length
    · obtain ⟨c, ec, er⟩ := rksB_get l j hlt
      obtain ⟨c0, ec0, er0⟩ := rksB_get l 0 h0
      have hcond : akT [.va (cdT l), .va (.int (j : Nat))] = some (decide (c.1 = c0.1)) := by
        refine and_T (eT (e2 rfl (eC (eCons rfl rfl) (len_cdT l)) rfl) (show some (decide ((j : Int) < (l.length : Int))) = _ from congrArg some (decide_eq_true (by omega)))) ?_
        have q0 := ix_cdTn h0 ec0
        rw [show (-((0 : Nat) : Int) - 1) = -1 by omega] at q0
        exact eT (e2 (e2 (e2 rfl (e2 (e1 rfl rfl) rfl rfl) (ix_cdTn hlt ec)) rfl rfl) (e2 (e2 rfl (e1 rfl rfl) q0) rfl rfl) (eq_int _ _)) rfl
      by_cases hc : c.1 = c0.1
      · rw [decide_eq_true hc] at hcond
        obtain ⟨n, hn, n1, ih⟩ := ak_loop l h0 f (j + 1) (by omega) (by omega) (by omega) (fun i hij => by
          by_cases z : i = j
          · subst z; rw [er, er0, hc]
          · exact hi i (by omega))
        exact ⟨n, hn, n1, (while_T hcond (set_nx rfl)).trans ih⟩
      · rw [decide_eq_false hc] at hcond
        refine ⟨j, ⟨by rw [rksB_len]; omega, hi, fun _ => ?_⟩, h1, while_F hcond⟩
        rw [er, er0]; simpa using hc
    · have hcond : akT [.va (cdT l), .va (.int (j : Nat))] = some false :=
        and_F (eT (e2 rfl (eC (eCons rfl rfl) (len_cdT l)) rfl) (show some (decide ((j : Int) < (l.length : Int))) = _ from congrArg some (decide_eq_false (by omega))))
      exact ⟨j, ⟨by rw [rksB_len]; omega, hi, fun z => absurd z (by rw [rksB_len]; omega)⟩, h1, while_F hcond⟩
theorem alike_ok (l : List Cd) (h0 : 0 < l.length) (h : l.length ≤ 100) : ∃ n : Nat, Alk (rksB l) n ∧ 1 ≤ n ∧ F_alike_behind [cdT l] = some (.int (n : Nat)) := by
  obtain ⟨n, hn, n1, hf⟩ := ak_loop l h0 200 1 (by omega) (by omega) (by omega) (fun i hi => by rw [show i = 0 by omega])
  refine ⟨n, hn, n1, ?_⟩
  rw [F_alike_behind_def]
  apply run_rt
  show B_alike_behind [.va (cdT l), .no] = _
  unfold B_alike_behind
  refine s_set (d := .int 1) rfl (s_nx hf ?_)
  exact r_ret rfl rfl
theorem alk_four {l : List Cd} {n : Nat} (h : Alk (rksB l) n) (hd : l.Nodup) (hs : ∀ c ∈ l, 0 ≤ c.2 ∧ c.2 < 4) : n ≤ 4 := by
  rcases Nat.eq_zero_or_pos l.length with z | z
  · have := h.1; rw [rksB_len] at this; omega
  obtain ⟨c0, ec0, er0⟩ := rksB_get l 0 z
  have hn := h.1
  rw [rksB_len] at hn
  have h1 : (l.reverse.take n).Nodup := List.Sublist.nodup (List.take_sublist _ _) (List.pairwise_reverse.mpr (hd.imp fun h => h.symm))
  have := len_sub _ [(c0.1, 0), (c0.1, 1), (c0.1, 2), (c0.1, 3)] h1 fun x hx => by
    obtain ⟨i, hi, e⟩ := List.getElem_of_mem hx
    have hin : i < n := by rw [List.length_take] at hi; omega
    obtain ⟨c, ec, er⟩ := rksB_get l i (by omega)
    have e1 : x = c := by
      have : (l.reverse.take n)[i]? = some x := by rw [List.getElem?_eq_getElem hi, e]
      rw [List.getElem?_take_of_lt hin, List.getElem?_reverse (by omega), ec] at this
      exact (Option.some.inj this).symm
    have e2 := h.2.1 i hin
    rw [er, er0] at e2
    have e3 : c.1 = c0.1 := Option.some.inj e2
    obtain ⟨s0, s1⟩ := hs c (List.mem_of_getElem? ec)
    subst e1
    obtain ⟨r, s⟩ := x
    simp only at e3 s0 s1
    subst e3
    have : s = 0 ∨ s = 1 ∨ s = 2 ∨ s = 3 := by omega
    rcases this with rfl | rfl | rfl | rfl <;> simp
  rw [List.length_take, List.length_reverse] at this
  simp only [List.length_cons, List.length_nil] at this
  omega
/-- the longest run behind -/
def lng (p : Nat → Bool) : Nat → Nat
  | 0 => 0
  | n + 1 => if 3 ≤ n + 1 ∧ p (n + 1) = true then n + 1 else lng p n
theorem lng_small (p : Nat → Bool) {n : Nat} (h : n < 3) : lng p n = 0 := by
  induction n with
  | zero => rfl
  | succ n ih => unfold lng; rw [if_neg (by omega), ih (by omega)]
theorem lng_congr {p q : Nat → Bool} : ∀ {n : Nat}, (∀ i, 3 ≤ i → i ≤ n → p i = q i) → lng p n = lng q n
  | 0, _ => rfl
  | n + 1, h => by
    unfold lng
    rw [lng_congr (n := n) fun i a b => h i a (by omega)]
    by_cases z : 3 ≤ n + 1
    · rw [h (n + 1) z (by omega)]
    · rw [if_neg (fun w => z w.1), if_neg (fun w => z w.1)]
def behB (l : List Cd) (m : Nat) : Bool := runB ((l.drop (l.length - m)).map (·.1))
theorem cut_neg (ds : List D) (k : Nat) (h1 : 1 ≤ k) (h : k ≤ ds.length) : cutL ds (some (-(k : Int))) none = ds.drop (ds.length - k) := by
  unfold cutL
  have : HT.sIx ds.length 0 (some (-(k : Int))) = ds.length - k := by
    unfold HT.sIx
    simp only
    split
    · omega
    · omega
  rw [this, HT.sIx_none]
  exact List.take_of_length_le (by rw [List.length_drop]; omega)
abbrev rbBody : SF := (cIfS (cT1 asB (cCall F_is_run (cArgs 1 (cCons (cSl (cV 0) (cPt (c1 negD (cV 1))) cNo) cNil)))) (cRet (cV 1)) cNext)
theorem rcL_cons (n : Nat) (k : Nat) : rcL (n : Int) (-1) (k + 1) = .int (n : Int) :: rcL ((n : Int) - 1) (-1) k := by
  unfold rcL
  rw [List.range_succ_eq_map, List.map_cons, List.map_map]
  congr 1
  simp
  intro a _
  omega
theorem rb_loop (l : List Cd) (hl : l.length ≤ 1000) : ∀ (k n : Nat) (x : Sl), n = k + 2 → n ≤ l.length → (∃ y, forL (gV 1) rbBody (rcL (n : Int) (-1) k) [.va (cdT l), x] = some (.nx [.va (cdT l), y]) ∧ lng (behB l) n = 0) ∨
    (forL (gV 1) rbBody (rcL (n : Int) (-1) k) [.va (cdT l), x] = some (.rt (.int (lng (behB l) n : Nat))))
  | 0, n, x, hn, _ => .inl ⟨x, rfl, lng_small _ (by omega)⟩
  | k + 1, n, x, hn, hle => by
    have hrun := is_run_ok (l.drop (l.length - n)) (by intro e; have := congrArg List.length e; rw [List.length_drop] at this; simp at this; omega) (by rw [List.length_drop]; omega)
    have hsl : slD (cdT l) (some (-(n : Int))) none = some (cdT (l.drop (l.length - n))) := by
      show some (PyData.tuple (cutL (l.map cdD) (some (-(n : Int))) none)) = _
      rw [cut_neg _ n (by omega) (by rw [List.length_map]; exact hle), List.length_map, ← List.map_drop]; rfl
    have ht : cT1 asB (cCall F_is_run (cArgs 1 (cCons (cSl (cV 0) (cPt (c1 negD (cV 1))) cNo) cNil))) [.va (cdT l), .va (.int (n : Int))] = some (behB l n) :=
      eT (eC (eArgs (eCons (eSl rfl (ePt (e1 rfl rfl)) rfl hsl) rfl) rfl) hrun) rfl
    obtain ⟨m, rfl⟩ : ∃ m, n = m + 1 := ⟨n - 1, by omega⟩
    rw [rcL_cons]
    by_cases hb : behB l (m + 1) = true
    · rw [hb] at ht
      refine .inr ((forL_rt rfl (i_T ht (r_ret rfl rfl))).trans ?_)
      unfold lng
      rw [if_pos ⟨by omega, hb⟩]
    · have hb' : behB l (m + 1) = false := by simpa using hb
      rw [hb'] at ht
      have e : lng (behB l) (m + 1) = lng (behB l) m := by
        show (if 3 ≤ m + 1 ∧ behB l (m + 1) = true then m + 1 else lng (behB l) m) = _
        rw [if_neg (fun z => hb z.2)]
      have ei : (((m + 1 : Nat) : Int) - 1) = ((m : Nat) : Int) := by omega
      rw [e, ei]
      rcases rb_loop l hl k m (.va (.int ((m + 1 : Nat) : Int))) (by omega) (by omega) with ⟨y, h1, h2⟩ | h1
      · exact .inl ⟨y, (forL_cons rfl (i_F ht rfl)).trans h1, h2⟩
      · exact .inr ((forL_cons rfl (i_F ht rfl)).trans h1)
theorem run_behind_ok (l : List Cd) (hl : l.length ≤ 1000) : F_run_behind [cdT l] = some (.int (lng (behB l) l.length : Nat)) := by
  rw [F_run_behind_def]
  apply run_rt
  show B_run_behind [.va (cdT l), .no] = _
  unfold B_run_behind
  have hit : cRg3 (cCall lenD (cCons (cV 0) cNil)) (c2 subD (cC (.int 3)) (cC (.int 1))) (c1 negD (cC (.int 1))) [.va (cdT l), .no] = some (rcL (l.length : Int) (-1) (l.length - 2)) := by
    refine (eRg3 (eC (eCons rfl rfl) (len_cdT l)) (n := 2) rfl rfl (by omega)).trans ?_
    congr 2
    omega
  rcases Nat.lt_or_ge l.length 2 with z | z
  · rw [show l.length - 2 = 0 by omega] at hit
    rw [lng_small _ (by omega)]
    refine s_for hit (show forL _ _ [] _ = _ from rfl) ?_
    exact r_ret rfl rfl
  · rcases rb_loop l hl (l.length - 2) l.length .no (by omega) (Nat.le_refl _) with ⟨y, h1, h2⟩ | h1
    · rw [h2]
      exact s_for hit h1 (r_ret rfl rfl)
    · exact s_forR hit h1 rfl
theorem kd_alike {n : Nat} (h1 : 1 ≤ n) (h4 : n ≤ 4) : kdD [(1, 0), (2, 2), (3, 6), (4, 12)] (.int (n : Nat)) = some (.int ((n : Int) * ((n : Int) - 1))) := by
  have : n = 1 ∨ n = 2 ∨ n = 3 ∨ n = 4 := by omega
  rcases this with rfl | rfl | rfl | rfl <;> rfl
/-- what a pile gains -/
def gainV (l : List Cd) (n : Nat) : Int := 2 * (if sumC l = 15 ∨ sumC l = 31 then 1 else 0) + (n : Int) * ((n : Int) - 1) + (lng (behB l) l.length : Nat)
theorem in_two (a b c : Int) : inD (.int a) (.tuple [.int b, .int c]) = some (.bool (decide (a = b ∨ a = c))) := by
  show some (PyData.bool ((b == a) || ((c == a) || false))) = _
  congr 2
  rw [Bool.or_false, Bool.beq_eq_decide_eq, Bool.beq_eq_decide_eq, ← Bool.decide_or, decide_eq_decide]
  rw [eq_comm, @eq_comm _ c a]
theorem gain_ok (l : List Cd) (h0 : 0 < l.length) (h : l.length ≤ 100) (hd : l.Nodup) (hs : ∀ c ∈ l, 0 ≤ c.2 ∧ c.2 < 4) : ∃ n, Alk (rksB l) n ∧ F_gain [cdT l] = some (.int (gainV l n)) := by
  obtain ⟨n, hn, n1, ha⟩ := alike_ok l h0 h
  have n4 := alk_four hn hd hs
  refine ⟨n, hn, ?_⟩
  rw [F_gain_def]
  apply run_rt
  show B_gain [.va (cdT l), .no] = _
  unfold B_gain
  refine s_set (d := .int (2 * (if sumC l = 15 ∨ sumC l = 31 then 1 else 0))) ?_ ?_
  · refine e2 (d := .int 2) (e := .int (if sumC l = 15 ∨ sumC l = 31 then 1 else 0)) rfl (eC (ds := [.bool (decide (sumC l = 15 ∨ sumC l = 31))]) (eCons (e2 (eC (eArgs (eCons rfl rfl) rfl) (sum_of_ok l (by omega))) (eTup (eCons rfl (eCons rfl rfl)) (by simp)) (in_two _ _ _)) rfl) ?_) (mul_int (.inl (by decide)))
    show some (PyData.int (if decide (sumC l = 15 ∨ sumC l = 31) = true then 1 else 0)) = _
    simp only [decide_eq_true_eq]
  · refine r_ret (d := .int (gainV l n)) (e2 (e2 rfl (e1 (eC (eArgs (eCons rfl rfl) rfl) ha) (kd_alike n1 n4)) rfl) (eC (eArgs (eCons rfl rfl) rfl) (run_behind_ok l (by omega))) rfl) rfl
/-! ### what a pile gains, by the law -/
theorem rksB_take (l : List Cd) (m : Nat) (h : m ≤ l.length) : (rksB l).take m = ((l.drop (l.length - m)).map (·.1)).reverse := by
  unfold rksB
  rw [List.take_reverse, List.length_map, List.map_drop]
theorem behB_eq (l : List Cd) (m : Nat) (h : m ≤ l.length) : behB l m = runB ((rksB l).take m) := by
  rw [rksB_take l m h]
  exact runB_same (List.reverse_perm _).symm
abbrev lgT : BF := (cAnd (cT1 asB (c2 ltD (cV 5) (cCall lenD (cCons (cV 2) cNil)))) (cT1 asB (c2 eqD (c2 ixD (cV 2) (cV 5)) (c2 ixD (cV 2) (cC (.int 0))))))
theorem len_ints (rs : List Int) : lenD [.list (rs.map PyData.int)] = some (.int (rs.length : Nat)) := by
  show some (PyData.int ((rs.map PyData.int).length : Nat)) = _
  rw [List.length_map]
theorem ix_ints {rs : List Int} {j : Nat} {c : Int} (e : rs[j]? = some c) : ixD (.list (rs.map PyData.int)) (.int (j : Nat)) = some (.int c) := L2.atI_nat (by rw [List.getElem?_map, e]; rfl)
theorem lg_loop (rs : List Int) (h0 : 0 < rs.length) (s0 s1 s3 s4 s6 s7 s8 : Sl) : ∀ (f j : Nat), rs.length < j + f → j ≤ rs.length → (∀ i, i < j → rs[i]? = rs[0]?) →
    ∃ n, Alk rs n ∧ whileN lgT (cAsg (c2 addD (cV 5) (cC (.int 1))) (gV 5)) f [s0, s1, .va (.list (rs.map PyData.int)), s3, s4, .va (.int (j : Nat)), s6, s7, s8] = some (.nx [s0, s1, .va (.list (rs.map PyData.int)), s3, s4, .va (.int (n : Nat)), s6, s7, s8])
  | 0, j, hf, hj, _ => absurd hf (by omega)
  | f + 1, j, hf, hj, hi => by
    by_cases hlt : j < rs.length
    · have er : rs[j]? = some rs[j] := List.getElem?_eq_getElem hlt
      have er0 : rs[0]? = some rs[0] := List.getElem?_eq_getElem h0
      have hcond : lgT [s0, s1, .va (.list (rs.map PyData.int)), s3, s4, .va (.int (j : Nat)), s6, s7, s8] = some (decide (rs[j] = rs[0])) := by
        refine and_T (eT (e2 rfl (eC (eCons rfl rfl) (len_ints rs)) rfl) (show some (decide ((j : Int) < (rs.length : Int))) = _ from congrArg some (decide_eq_true (by omega)))) ?_
        exact eT (e2 (e2 rfl rfl (ix_ints er)) (e2 rfl rfl (ix_ints (j := 0) er0)) (eq_int _ _)) rfl
      by_cases hc : rs[j] = rs[0]
      · rw [decide_eq_true hc] at hcond
        obtain ⟨n, hn, ih⟩ := lg_loop rs h0 s0 s1 s3 s4 s6 s7 s8 f (j + 1) (by omega) (by omega) (fun i hij => by
          by_cases z : i = j
          · subst z; rw [er, er0, hc]
          · exact hi i (by omega))
        exact ⟨n, hn, (while_T hcond (set_nx rfl)).trans ih⟩
      · rw [decide_eq_false hc] at hcond
        refine ⟨j, ⟨by omega, hi, fun _ => ?_⟩, while_F hcond⟩
        rw [er, er0]; simpa using hc
    · have hcond : lgT [s0, s1, .va (.list (rs.map PyData.int)), s3, s4, .va (.int (j : Nat)), s6, s7, s8] = some false :=
        and_F (eT (e2 rfl (eC (eCons rfl rfl) (len_ints rs)) rfl) (show some (decide ((j : Int) < (rs.length : Int))) = _ from congrArg some (decide_eq_false (by omega))))
      exact ⟨j, ⟨by omega, hi, fun z => absurd z (by omega)⟩, while_F hcond⟩
abbrev lgBody : SF := (cSeq (cAsg (cSl (cV 2) cNo (cPt (cV 7))) (gV 8))
  (cIfS (cAnd (cT1 asB (c2 eqD (c1 lensetD (cV 8)) (cV 7))) (cT1 asB (c2 eqD (c2 subD (cCall maxD (cCons (cV 8) cNil)) (cCall minD (cCons (cV 8) cNil))) (c2 subD (cV 7) (cC (.int 1)))))) (cAsg (cV 7) (gV 6)) cNext))
theorem lg_many (rs : List Int) (hl : rs.length ≤ 1000) (s0 s1 s3 s4 s5 : Sl) : ∀ (k m : Nat) (s7 s8 : Sl), m + k = rs.length + 1 → 3 ≤ m →
    ∃ y7 y8, forL (gV 7) lgBody ((rgI (m : Nat) k).map PyData.int) [s0, s1, .va (.list (rs.map PyData.int)), s3, s4, s5, .va (.int (lng (fun i => runB (rs.take i)) (m - 1) : Nat)), s7, s8] =
      some (.nx [s0, s1, .va (.list (rs.map PyData.int)), s3, s4, s5, .va (.int (lng (fun i => runB (rs.take i)) rs.length : Nat)), y7, y8])
  | 0, m, s7, s8, hm, h3 => by
    refine ⟨s7, s8, ?_⟩
    rw [show m - 1 = rs.length by omega]; rfl
  | k + 1, m, s7, s8, hm, h3 => by
    have hne : rs.take m ≠ [] := fun e => by
      have := congrArg List.length e
      rw [List.length_take, List.length_nil] at this
      omega
    obtain ⟨mx, mn, hmx, hmn, hiff⟩ := runB_iff hne
    have hlen : (rs.take m).length = m := by rw [List.length_take]; omega
    rw [hlen] at hiff
    obtain ⟨u, rfl⟩ : ∃ u, m = u + 1 := ⟨m - 1, by omega⟩
    obtain ⟨y7, y8, ih⟩ := lg_many rs hl s0 s1 s3 s4 s5 k (u + 1 + 1) (.va (.int ((u + 1 : Nat) : Int))) (.va (.list ((rs.take (u + 1)).map PyData.int))) (by omega) (by omega)
    refine ⟨y7, y8, ?_⟩
    rw [rgI_consN, List.map_cons]
    refine (forL_cons rfl ?_).trans ih
    show lgBody [s0, s1, .va (.list (rs.map PyData.int)), s3, s4, s5, .va (.int (lng (fun i => runB (rs.take i)) u : Nat)), .va (.int ((u + 1 : Nat) : Int)), s8] = _
    have hcut : slD (.list (rs.map PyData.int)) none (some ((u + 1 : Nat) : Int)) = some (.list ((rs.take (u + 1)).map PyData.int)) := by
      show some (PyData.list (cutL (rs.map PyData.int) none (some ((u + 1 : Nat) : Int)))) = _
      rw [cut_take _ _ (by omega) (by rw [List.length_map]; omega), Int.toNat_natCast, ← List.map_take]
    refine s_set (eSl rfl rfl (ePt rfl) hcut) ?_
    have q1 : cT1 asB (c2 eqD (c1 lensetD (cV 8)) (cV 7)) [s0, s1, .va (.list (rs.map PyData.int)), s3, s4, s5, .va (.int (lng (fun i => runB (rs.take i)) u : Nat)), .va (.int ((u + 1 : Nat) : Int)), .va (.list ((rs.take (u + 1)).map PyData.int))] = some (decide ((rs.take (u + 1)).eraseDups.length = u + 1)) := by
      have hs : lensetD (.list ((rs.take (u + 1)).map PyData.int)) = some (.int ((rs.take (u + 1)).eraseDups.length : Nat)) := by
        show (intsD _).bind _ = _
        rw [ints_map]
        exact if_pos (by omega)
      refine (eT (e2 (e1 rfl hs) rfl (eq_int _ _)) rfl).trans ?_
      show some (decide _) = _
      congr 1
      rw [decide_eq_decide]; omega
    have q2 : cT1 asB (c2 eqD (c2 subD (cCall maxD (cCons (cV 8) cNil)) (cCall minD (cCons (cV 8) cNil))) (c2 subD (cV 7) (cC (.int 1)))) [s0, s1, .va (.list (rs.map PyData.int)), s3, s4, s5, .va (.int (lng (fun i => runB (rs.take i)) u : Nat)), .va (.int ((u + 1 : Nat) : Int)), .va (.list ((rs.take (u + 1)).map PyData.int))] = some (decide (mx - mn = ((u + 1 : Nat) : Int) - 1)) := by
      have hx : maxD [.list ((rs.take (u + 1)).map PyData.int)] = some (.int mx) := by
        show (intsD _).bind _ = _
        rw [ints_map]
        show (maxL _).bind _ = _
        rw [hmx]; rfl
      have hy : minD [.list ((rs.take (u + 1)).map PyData.int)] = some (.int mn) := by
        show (intsD _).bind _ = _
        rw [ints_map]
        show (minL _).bind _ = _
        rw [hmn]; rfl
      exact eT (e2 (e2 (eC (eCons rfl rfl) hx) (eC (eCons rfl rfl) hy) rfl) (e2 rfl rfl rfl) (eq_int _ _)) rfl
    have q3 := and_2 q1 q2
    rw [← Bool.decide_and] at q3
    have e1 : lng (fun i => runB (rs.take i)) (u + 1) = if runB (rs.take (u + 1)) = true then u + 1 else lng (fun i => runB (rs.take i)) u := by
      show (if 3 ≤ u + 1 ∧ runB (rs.take (u + 1)) = true then u + 1 else lng _ u) = _
      by_cases z : runB (rs.take (u + 1)) = true
      · rw [if_pos ⟨h3, z⟩, if_pos z]
      · rw [if_neg (fun w => z w.2), if_neg z]
    by_cases hr : runB (rs.take (u + 1)) = true
    · rw [decide_eq_true (hiff.mp hr)] at q3
      refine i_T q3 ((set_nx rfl).trans ?_)
      rw [show u + 1 + 1 - 1 = u + 1 by omega, e1, if_pos hr]; rfl
    · rw [decide_eq_false (fun w => hr (hiff.mpr w))] at q3
      refine (i_F q3 rfl).trans ?_
      rw [show u + 1 + 1 - 1 = u + 1 by omega, e1, if_neg hr]; rfl
theorem law_gain_ok (l : List Cd) (h0 : 0 < l.length) (h : l.length ≤ 100) : ∃ n, Alk (rksB l) n ∧ F_law_gain [cdT l] = some (.int (gainV l n)) := by
  have hrl := rksB_len l
  obtain ⟨n, hn, hw⟩ := lg_loop (rksB l) (by omega) (.va (cdT l)) (.va (.int (2 * (if sumC l = 15 then 1 else 0) + 2 * (if sumC l = 31 then 1 else 0)))) .no .no .no .no .no 200 0 (by omega) (by omega) (fun i hi => absurd hi (by omega))
  refine ⟨n, hn, ?_⟩
  rw [F_law_gain_def]
  apply run_rt
  show B_law_gain [.va (cdT l), .no, .no, .no, .no, .no, .no, .no, .no] = _
  unfold B_law_gain
  have hs := law_sum_ok l (by omega)
  have ib : ∀ b : Prop, [Decidable b] → intD [.bool (decide b)] = some (.int (if b then 1 else 0)) := fun b _ => by
    show some (PyData.int (if decide b = true then 1 else 0)) = _
    simp only [decide_eq_true_eq]
  refine s_set (d := .int (2 * (if sumC l = 15 then 1 else 0) + 2 * (if sumC l = 31 then 1 else 0))) ?_ ?_
  · exact e2 (e2 (d := .int 2) rfl (eC (eCons (e2 (eC (eArgs (eCons rfl rfl) rfl) hs) rfl (eq_int _ _)) rfl) (ib _)) (mul_int (.inl (by decide)))) (e2 (d := .int 2) rfl (eC (eCons (e2 (eC (eArgs (eCons rfl rfl) rfl) hs) rfl (eq_int _ _)) rfl) (ib _)) (mul_int (.inl (by decide)))) rfl
  refine s_set (d := .list ((rksB l).map PyData.int)) ?_ ?_
  · refine e1 (d := .list ((l.map (·.1)).map PyData.int)) ?_ ?_
    · refine (eLcA (l := l) (enc := cdD) (out := fun c => .int c.1) (eItT rfl) (by omega) fun c _ => ⟨_, rfl, rfl⟩).trans ?_
      rw [List.map_map]; rfl
    · show some (PyData.list ((l.map (·.1)).map PyData.int).reverse) = _
      unfold rksB
      rw [List.map_reverse]
  refine s_set (d := .int 0) rfl (s_nx hw ?_)
  refine s_set (d := .int (2 * (if sumC l = 15 then 1 else 0) + 2 * (if sumC l = 31 then 1 else 0) + (n : Int) * ((n : Int) - 1))) ?_ ?_
  · have := hn.1
    exact e2 rfl (e2 rfl (e2 rfl rfl rfl) (mul_int (.inl (by omega)))) rfl
  refine s_set (d := .int 0) rfl ?_
  have heq : lng (fun i => runB ((rksB l).take i)) (rksB l).length = lng (behB l) l.length := by
    rw [hrl]
    exact lng_congr fun i _ hi => (behB_eq l i hi).symm
  have hsum : 2 * (if sumC l = 15 then (1 : Int) else 0) + 2 * (if sumC l = 31 then 1 else 0) = 2 * (if sumC l = 15 ∨ sumC l = 31 then 1 else 0) := by
    by_cases a : sumC l = 15
    · rw [if_pos a, if_neg (by omega), if_pos (.inl a)]; rfl
    · rw [if_neg a]
      by_cases b : sumC l = 31
      · rw [if_pos b, if_pos (.inr b)]; rfl
      · rw [if_neg b, if_neg (by omega)]; rfl
  have hfor : ∃ y7 y8, forL (gV 7) lgBody (rgL 3 ((((rksB l).length : Int) + 1) - 3).toNat) [.va (cdT l), .va (.int (2 * (if sumC l = 15 then 1 else 0) + 2 * (if sumC l = 31 then 1 else 0) + (n : Int) * ((n : Int) - 1))), .va (.list ((rksB l).map PyData.int)), .no, .no, .va (.int (n : Nat)), .va (.int 0), .no, .no] =
      some (.nx [.va (cdT l), .va (.int (2 * (if sumC l = 15 then 1 else 0) + 2 * (if sumC l = 31 then 1 else 0) + (n : Int) * ((n : Int) - 1))), .va (.list ((rksB l).map PyData.int)), .no, .no, .va (.int (n : Nat)), .va (.int (lng (fun i => runB ((rksB l).take i)) (rksB l).length : Nat)), y7, y8]) := by
    rcases Nat.lt_or_ge (rksB l).length 3 with z | z
    · rw [show ((((rksB l).length : Int) + 1) - 3).toNat = 0 by omega, lng_small _ z]
      exact ⟨_, _, rfl⟩
    · obtain ⟨y7, y8, hf⟩ := lg_many (rksB l) (by omega) (.va (cdT l)) (.va (.int (2 * (if sumC l = 15 then 1 else 0) + 2 * (if sumC l = 31 then 1 else 0) + (n : Int) * ((n : Int) - 1)))) .no .no (.va (.int (n : Nat))) ((rksB l).length + 1 - 3) 3 .no .no (by omega) (by omega)
      refine ⟨y7, y8, ?_⟩
      rw [rgL_eq, show ((((rksB l).length : Int) + 1) - 3).toNat = (rksB l).length + 1 - 3 by omega]
      exact hf
  obtain ⟨y7, y8, hf⟩ := hfor
  refine s_for (ds := rgL 3 ((((rksB l).length : Int) + 1) - 3).toNat) (eRg2 rfl (e2 (eC (eCons rfl rfl) (len_ints _)) rfl rfl) (by omega)) hf ?_
  rw [heq, hsum]
  exact r_ret rfl rfl
/-! ### rows: plays -/
noncomputable def alkN (rs : List Int) : Nat := open Classical in if h : ∃ n, Alk rs n then h.choose else 0
theorem alkN_of {rs : List Int} {n : Nat} (h : Alk rs n) : alkN rs = n := by
  have h' : ∃ n, Alk rs n := ⟨n, h⟩
  unfold alkN
  rw [dif_pos h']
  exact Alk_uniq h'.choose_spec h
noncomputable def gainC (l : List Cd) : Int := gainV l (alkN (rksB l))
theorem gainC_ok {l : List Cd} (h0 : 0 < l.length) (h : l.length ≤ 100) (hd : l.Nodup) (hs : ∀ c ∈ l, CdOk c) : F_gain [cdT l] = some (.int (gainC l)) := by
  obtain ⟨n, hn, e⟩ := gain_ok l h0 h hd fun c hc => ⟨(hs c hc).2.2.1, (hs c hc).2.2.2⟩
  unfold gainC
  rw [alkN_of hn]; exact e
theorem law_gainC_ok {l : List Cd} (h0 : 0 < l.length) (h : l.length ≤ 100) : F_law_gain [cdT l] = some (.int (gainC l)) := by
  obtain ⟨n, hn, e⟩ := law_gain_ok l h0 h
  unfold gainC
  rw [alkN_of hn]; exact e
structure Pl where
  h0 : List Cd
  h1 : List Cd
  pile : List Cd
  turn : Option Bool
  last : Option Bool
def bI (b : Bool) : Int := if b then 1 else 0
def whD : Option Bool → D
  | none => .none
  | some b => .int (bI b)
def Pl.hand (p : Pl) (b : Bool) : List Cd := if b then p.h1 else p.h0
def hsD (a b : List Cd) : D := .tuple [cdT a, cdT b]
def plD (p : Pl) : D := .tuple [hsD p.h0 p.h1, cdT p.pile, whD p.turn, whD p.last]
def hadD (l : List (Bool × Int)) : List D := l.map fun p => .tuple [.int (bI p.1), .int p.2]
def handOf (a b : List Cd) (t : Bool) : List Cd := if t then b else a
def firstT (a b : List Cd) (t : Bool) : Option Bool := if handOf a b t ≠ [] then some t else if handOf a b (!t) ≠ [] then some (!t) else none
def beginC (a b : List Cd) (t : Bool) : Pl := ⟨cdsort a, cdsort b, [], firstT (cdsort a) (cdsort b) t, none⟩
def canB (hand pile : List Cd) : List Cd := hand.filter fun c => decide (sumC pile + min c.1 10 ≤ 31)
def canC (p : Pl) : List Cd := match p.turn with
  | none => []
  | some w => canB (handOf p.h0 p.h1 w) p.pile
def rmC (l : List Cd) (c : Cd) : List Cd := l.filter fun x => !decide (x = c)
noncomputable def layC (p : Pl) (c : Cd) : Pl × List (Bool × Int) := match p.turn with
  | none => (p, [])
  | some w =>
    let a := rmC p.h0 c
    let b := rmC p.h1 c
    let q := p.pile ++ [c]
    let had := if 0 < gainC q then [(w, gainC q)] else []
    if canB (handOf a b (!w)) q ≠ [] then (⟨a, b, q, some (!w), some w⟩, had)
    else if canB (handOf a b w) q ≠ [] then (⟨a, b, q, some w, some w⟩, had)
    else (⟨a, b, [], firstT a b (!w), none⟩, if sumC q ≠ 31 then had ++ [(w, 1)] else had)
structure PlOk (p : Pl) : Prop where
  s0 : p.h0.Pairwise fun a b => leC a b = true
  s1 : p.h1.Pairwise fun a b => leC a b = true
  nd : (p.h0 ++ p.h1 ++ p.pile).Nodup
  ok : ∀ c ∈ p.h0 ++ p.h1 ++ p.pile, CdOk c
  len : (p.h0 ++ p.h1 ++ p.pile).length ≤ 20
  tn : p.turn = none → p.h0 = [] ∧ p.h1 = [] ∧ p.pile = [] ∧ p.last = none
  cn : ∀ w, p.turn = some w → canC p ≠ []
/-! ### what stands in a play -/
theorem hs_ix (a b : List Cd) (w : Bool) : ixD (hsD a b) (.int (bI w)) = some (cdT (handOf a b w)) := by cases w <;> rfl
theorem one_sub (w : Bool) : subD (.int 1) (.int (bI w)) = some (.int (bI (!w))) := by cases w <;> rfl
theorem len_eq0 (l : List Cd) : eqD (.int (l.length : Nat)) (.int 0) = some (.bool (decide (l = []))) := by
  rw [eq_int]
  congr 2
  rw [decide_eq_decide]
  cases l <;> simp
  omega
theorem eq_cdN (l : List Cd) : eqD (cdT l) (.tuple []) = some (.bool (decide (l = []))) := by
  unfold eqD
  rw [if_pos ⟨shaped_cdt l, rfl⟩]
  cases l with
  | nil => rfl
  | cons a l => simp [cdT, PyData.eqv, PyData.eqvAll]
theorem cat_cdT (l m : List Cd) (h : l.length + m.length ≤ 1000) : addD (cdT l) (cdT m) = some (cdT (l ++ m)) := by
  show (if (l.map cdD).length + (m.map cdD).length ≤ lim then some (PyData.tuple (l.map cdD ++ m.map cdD)) else none) = _
  rw [if_pos (show _ ≤ lim from Nat.le_of_lt (lim_of (by rw [List.length_map, List.length_map]; omega)))]
  unfold cdT
  rw [List.map_append]
theorem sumC_app (l : List Cd) (c : Cd) : sumC (l ++ [c]) = sumC l + min c.1 10 := by
  unfold sumC
  rw [List.map_append, List.sum_append]; simp
theorem can_be_ok {hand pile : List Cd} (h1 : hand.length ≤ 1000) (h2 : pile.length ≤ 1000) : F_can_be [cdT hand, cdT pile] = some (cdT (canB hand pile)) := by
  rw [F_can_be_def]
  apply run_rt
  show B_can_be [.va (cdT hand), .va (cdT pile), .no] = _
  unfold B_can_be
  refine r_ret (d := cdT (canB hand pile)) (eC (ds := [cdL (canB hand pile)]) (eCons ?_ rfl) rfl) rfl
  refine eLcM (l := hand) (enc := cdD) (out := cdD) (p := fun c => decide (sumC pile + min c.1 10 ≤ 31)) (eItT rfl) (by omega) fun c _ => ⟨[.va (cdT hand), .va (cdT pile), .va (cdD c)], rfl, ?_, fun _ => rfl⟩
  exact eT (e2 (e2 (eC (ds := [cdT pile]) (eArgs (eCons rfl rfl) rfl) (sum_of_ok pile h2)) (eC (ds := [cdD c]) (eArgs (eCons rfl rfl) rfl) (worth_ok c)) rfl) rfl rfl) rfl
theorem can_ok {p : Pl} (h1 : (p.h0 ++ p.h1 ++ p.pile).length ≤ 1000) : F_can [plD p] = some (cdT (canC p)) := by
  obtain ⟨a, b, q, t, l⟩ := p
  simp only [List.length_append] at h1
  rw [F_can_def]
  apply run_rt
  show B_can [.va (plD _), .no, .no, .no, .no] = _
  unfold B_can
  refine s_asg (ρ1 := [.va (plD ⟨a, b, q, t, l⟩), .va (hsD a b), .va (cdT q), .va (whD t), .va (whD l)]) rfl rfl ?_
  cases t with
  | none => exact s_ifT rfl (s_ret (d := cdT []) rfl rfl)
  | some w =>
    refine s_ifF rfl (s_next ?_)
    refine r_ret (eC (ds := [cdT (handOf a b w), cdT q]) (eArgs (eCons (e2 rfl rfl (hs_ix a b w)) (eCons rfl rfl)) rfl) (can_be_ok ?_ (by omega))) rfl
    cases w
    · show a.length ≤ 1000; omega
    · show b.length ≤ 1000; omega
theorem law_can_ok {p : Pl} (h1 : (p.h0 ++ p.h1 ++ p.pile).length ≤ 900) : F_law_can [plD p] = some (cdL (canC p)) := by
  obtain ⟨a, b, q, t, l⟩ := p
  simp only [List.length_append] at h1
  rw [F_law_can_def]
  apply run_rt
  show B_law_can [.va (plD _), .no, .no, .no, .no, .no] = _
  unfold B_law_can
  refine s_asg (ρ1 := [.va (plD ⟨a, b, q, t, l⟩), .va (hsD a b), .va (cdT q), .va (whD t), .va (whD l), .no]) rfl rfl ?_
  cases t with
  | none => exact s_ifT rfl (s_ret (d := cdL []) rfl rfl)
  | some w =>
    refine s_ifF rfl (s_next ?_)
    refine r_ret (d := cdL (canB (handOf a b w) q)) ?_ rfl
    have hl : (handOf a b w).length ≤ 1000 := by
      cases w
      · show a.length ≤ 1000; omega
      · show b.length ≤ 1000; omega
    refine eLcM (l := handOf a b w) (enc := cdD) (out := cdD) (p := fun c => decide (sumC q + min c.1 10 ≤ 31)) (eItT (e2 rfl rfl (hs_ix a b w))) (by omega) fun c _ => ⟨[.va (plD ⟨a, b, q, some w, l⟩), .va (hsD a b), .va (cdT q), .va (whD (some w)), .va (whD l), .va (cdD c)], rfl, ?_, fun _ => rfl⟩
    have hs := law_sum_ok (q ++ [c]) (by simp; omega)
    rw [sumC_app] at hs
    exact eT (e2 (eC (ds := [cdT (q ++ [c])]) (eArgs (eCons (e2 (d := cdT q) (e := cdT [c]) rfl (eTup (eCons rfl rfl) (by simp)) (cat_cdT _ _ (by simp; omega))) rfl) rfl) hs) rfl rfl) rfl
theorem begin_ok (a b : List Cd) (t : Bool) : F_begin [cdT a, cdT b, .int (bI t)] = some (plD (beginC a b t)) := by
  rw [F_begin_def]
  apply run_rt
  show B_begin [.va (cdT a), .va (cdT b), .va (.int (bI t)), .no] = _
  unfold B_begin
  refine s_set (d := hsD (cdsort a) (cdsort b)) (eTup (eCons (eC (ds := [cdL (cdsort a)]) (eCons (eC (eCons rfl rfl) (sorted_cdT a)) rfl) rfl) (eCons (eC (ds := [cdL (cdsort b)]) (eCons (eC (eCons rfl rfl) (sorted_cdT b)) rfl) rfl) rfl)) (by simp)) ?_
  have ht : ∀ w : Bool, cT1 asB (c2 eqD (cCall lenD (cCons (c2 ixD (cV 3) (cV 2)) cNil)) (cC (.int 0))) [.va (cdT a), .va (cdT b), .va (.int (bI w)), .va (hsD (cdsort a) (cdsort b))] = some (decide (handOf (cdsort a) (cdsort b) w = [])) := fun w =>
    eT (e2 (eC (ds := [cdT (handOf (cdsort a) (cdsort b) w)]) (eCons (e2 rfl rfl (hs_ix _ _ w)) rfl) (len_cdT _)) rfl (len_eq0 _)) rfl
  have fin : ∀ w : Bool, handOf (cdsort a) (cdsort b) w ≠ [] → (cSeq (cIfS (cT1 asB (c2 eqD (cCall lenD (cCons (c2 ixD (cV 3) (cV 2)) cNil)) (cC (.int 0)))) (cRet (cTup (cCons (cV 3) (cCons (cTup cNil) (cCons (cC .none) (cCons (cC .none) cNil)))))) cNext)
      (cRet (cTup (cCons (cV 3) (cCons (cTup cNil) (cCons (cV 2) (cCons (cC .none) cNil))))))) [.va (cdT a), .va (cdT b), .va (.int (bI w)), .va (hsD (cdsort a) (cdsort b))] = some (.rt (plD ⟨cdsort a, cdsort b, [], some w, none⟩)) := fun w hw =>
    s_ifF ((ht w).trans (congrArg some (decide_eq_false hw))) (s_next (r_ret (eTup (eCons rfl (eCons rfl (eCons rfl (eCons rfl rfl)))) (by simp)) rfl))
  unfold beginC firstT
  by_cases h1 : handOf (cdsort a) (cdsort b) t = []
  · refine s_ifT ((ht t).trans (congrArg some (decide_eq_true h1))) (s_set (e2 rfl rfl (one_sub t)) ?_)
    rw [if_neg (fun z => z h1)]
    by_cases h2 : handOf (cdsort a) (cdsort b) (!t) = []
    · rw [if_neg (fun z => z h2)]
      exact s_ifT ((ht (!t)).trans (congrArg some (decide_eq_true h2))) (s_ret (eTup (eCons rfl (eCons rfl (eCons rfl (eCons rfl rfl)))) (by simp)) rfl)
    · rw [if_pos h2]
      exact fin (!t) h2
  · rw [if_pos h1]
    exact s_ifF ((ht t).trans (congrArg some (decide_eq_false h1))) (s_next (fin t h1))
theorem law_begin_ok (a b : List Cd) (t : Bool) : F_law_begin [cdT a, cdT b, .int (bI t)] = some (plD (beginC a b t)) := by
  rw [F_law_begin_def]
  apply run_rt
  show B_law_begin [.va (cdT a), .va (cdT b), .va (.int (bI t)), .no] = _
  unfold B_law_begin
  refine s_set (d := hsD (cdsort a) (cdsort b)) (eTup (eCons (eC (ds := [cdL (cdsort a)]) (eCons (eC (eCons rfl rfl) (sorted_cdT a)) rfl) rfl) (eCons (eC (ds := [cdL (cdsort b)]) (eCons (eC (eCons rfl rfl) (sorted_cdT b)) rfl) rfl) rfl)) (by simp)) ?_
  have hq : ∀ w : Bool, (c2 eqD (c2 ixD (cV 3) (cV 2)) (cTup cNil)) [.va (cdT a), .va (cdT b), .va (.int (bI w)), .va (hsD (cdsort a) (cdsort b))] = some (.bool (decide (handOf (cdsort a) (cdsort b) w = []))) := fun w =>
    e2 (e2 rfl rfl (hs_ix _ _ w)) rfl (eq_cdN _)
  have fin : ∀ w : Bool, (cRet (cTup (cCons (cV 3) (cCons (cTup cNil) (cCons (c2 ixD (cL (chk 1000 (cCons (cV 2) (cCons (cC .none) cNil)))) (cCall intD (cCons (c2 eqD (c2 ixD (cV 3) (cV 2)) (cTup cNil)) cNil))) (cCons (cC .none) cNil)))))) [.va (cdT a), .va (cdT b), .va (.int (bI w)), .va (hsD (cdsort a) (cdsort b))] =
      some (.rt (plD ⟨cdsort a, cdsort b, [], if handOf (cdsort a) (cdsort b) w = [] then none else some w, none⟩)) := fun w => by
    refine r_ret (eTup (eCons (d := hsD (cdsort a) (cdsort b)) rfl (eCons (d := cdT []) rfl (eCons (d := whD (if handOf (cdsort a) (cdsort b) w = [] then none else some w)) (e2 (d := .list [.int (bI w), .none]) (e := .int (if handOf (cdsort a) (cdsort b) w = [] then 1 else 0)) rfl (eC (eCons (hq w) rfl) ?_) ?_) (eCons rfl rfl)))) (by simp)) rfl
    · show some (PyData.int (if decide _ = true then 1 else 0)) = _
      simp only [decide_eq_true_eq]
    · by_cases z : handOf (cdsort a) (cdsort b) w = []
      · rw [if_pos z, if_pos z]; rfl
      · rw [if_neg z, if_neg z]; rfl
  unfold beginC firstT
  by_cases h1 : handOf (cdsort a) (cdsort b) t = []
  · refine s_ifT (eT (hq t) (congrArg some (decide_eq_true h1))) (s_set (e2 rfl rfl (one_sub t)) ?_)
    rw [if_neg (fun z => z h1)]
    refine (fin (!t)).trans ?_
    by_cases h2 : handOf (cdsort a) (cdsort b) (!t) = []
    · rw [if_pos h2, if_neg (fun z => z h2)]
    · rw [if_neg h2, if_pos h2]
  · rw [if_pos h1]
    refine s_ifF (eT (hq t) (congrArg some (decide_eq_false h1))) (s_next ((fin t).trans ?_))
    rw [if_neg h1]
/-! ### a card laid -/
theorem ne_cd (x c : Cd) : neD (cdD x) (cdD c) = some (.bool (!decide (x = c))) := by
  unfold neD
  rw [if_pos ⟨shaped_cd x, shaped_cd c⟩, eqv_cd]
theorem rmC_len (l : List Cd) (c : Cd) : (rmC l c).length ≤ l.length := List.length_filter_le _ _
theorem rmC_not {l : List Cd} {c : Cd} (h : c ∉ l) : rmC l c = l := List.filter_eq_self.mpr fun x hx => by
  have : x ≠ c := fun z => h (z ▸ hx)
  simpa using this
theorem rmC_mem {l : List Cd} {c x : Cd} : x ∈ rmC l c ↔ x ∈ l ∧ x ≠ c := by
  unfold rmC
  rw [List.mem_filter]; simp
theorem cdsort_id {l : List Cd} (h : l.Pairwise fun a b => leC a b = true) : cdsort l = l := (cdsort_of (List.Perm.refl l) h).symm
theorem pw_rmC {l : List Cd} (c : Cd) (h : l.Pairwise fun a b => leC a b = true) : (rmC l c).Pairwise fun a b => leC a b = true := List.Pairwise.filter _ h
theorem without_ok {a b : List Cd} (w : Bool) (c : Cd) (h0 : a.length ≤ 1000) (h1 : b.length ≤ 1000) : F_without [hsD a b, .int (bI w), cdD c] = some (hsD (if w then a else rmC a c) (if w then rmC b c else b)) := by
  rw [F_without_def]
  apply run_rt
  show B_without [.va (hsD a b), .va (.int (bI w)), .va (cdD c), .no, .no] = _
  unfold B_without
  have hl : (handOf a b w).length ≤ 1000 := by cases w <;> assumption
  refine s_set (d := cdT (rmC (handOf a b w) c)) (eC (ds := [cdL (rmC (handOf a b w) c)]) (eCons ?_ rfl) rfl) ?_
  · exact eLcM (l := handOf a b w) (enc := cdD) (out := cdD) (p := fun x => !decide (x = c)) (eItT (e2 rfl rfl (hs_ix _ _ w))) (by omega) fun x _ => ⟨[.va (hsD a b), .va (.int (bI w)), .va (cdD c), .no, .va (cdD x)], rfl, eT (e2 rfl rfl (ne_cd x c)) rfl, fun _ => rfl⟩
  · cases w with
    | false => exact s_ifT rfl (s_ret (eTup (eCons rfl (eCons rfl rfl)) (by simp)) rfl)
    | true => exact s_ifF rfl (s_next (r_ret (eTup (eCons rfl (eCons rfl rfl)) (by simp)) rfl))
theorem rm_both {a b : List Cd} {w : Bool} {c : Cd} (h : c ∉ handOf a b (!w)) : hsD (if w then a else rmC a c) (if w then rmC b c else b) = hsD (rmC a c) (rmC b c) := by
  cases w with
  | false => show hsD (rmC a c) b = _; rw [rmC_not (l := b) h]
  | true => show hsD a (rmC b c) = _; rw [rmC_not (l := a) h]
theorem had_app (l : List (Bool × Int)) (w : Bool) (g : Int) : hadD l ++ [.tuple [.int (bI w), .int g]] = hadD (l ++ [(w, g)]) := by
  unfold hadD; rw [List.map_append]; rfl
/-- what is known where a card is laid -/
structure LayOk (a b q : List Cd) (w : Bool) (c : Cd) : Prop where
  s0 : a.Pairwise fun a b => leC a b = true
  s1 : b.Pairwise fun a b => leC a b = true
  la : a.length ≤ 100
  lb : b.length ≤ 100
  lq : q.length ≤ 90
  cm : c ∈ handOf a b w
  cn : c ∉ handOf a b (!w)
  le : sumC q + min c.1 10 ≤ 31
  qn : (q ++ [c]).Nodup
  qo : ∀ x ∈ q ++ [c], CdOk x
theorem layOk_of {a b q : List Cd} {w : Bool} {l : Option Bool} (ok : PlOk ⟨a, b, q, some w, l⟩) {c : Cd} (hc : c ∈ canC ⟨a, b, q, some w, l⟩) : LayOk a b q w c := by
  obtain ⟨h1, h2⟩ := List.mem_filter.mp hc
  have hl := ok.len
  have nd := ok.nd
  have oo := ok.ok
  simp only [List.length_append] at hl
  have h1 : c ∈ handOf a b w := h1
  have hm : c ∈ a ++ b := by
    cases w with
    | false => exact List.mem_append_left _ h1
    | true => exact List.mem_append_right _ h1
  obtain ⟨n1, n2, n3⟩ := List.nodup_append.mp nd
  obtain ⟨n4, n5, n6⟩ := List.nodup_append.mp n1
  refine ⟨ok.s0, ok.s1, by omega, by omega, by omega, h1, ?_, by simpa using h2, ?_, ?_⟩
  · cases w with
    | false => exact fun z => n6 c h1 c z rfl
    | true => exact fun z => n6 c z c h1 rfl
  · rw [List.nodup_append]
    exact ⟨n2, by simp, fun x hx y hy e => by
      have : y = c := by simpa using hy
      subst this; subst e
      exact n3 x hm x hx rfl⟩
  · intro x hx
    rcases List.mem_append.mp hx with hx | hx
    · exact oo x (List.mem_append_right _ hx)
    · have : x = c := by simpa using hx
      subst this
      exact oo x (List.mem_append_left _ hm)
theorem lay_ok {p : Pl} (ok : PlOk p) {c : Cd} (hc : c ∈ canC p) : F_lay [plD p, cdD c] = some (.tuple [plD (layC p c).1, .tuple (hadD (layC p c).2)]) := by
  obtain ⟨a, b, q, t, l⟩ := p
  cases t with
  | none => cases hc
  | some w =>
    have L := layOk_of ok hc
    have hlen : ((a ++ b ++ q : List Cd)).length ≤ 1000 := by have := ok.len; simp only at this; omega
    have hcan := can_ok (p := ⟨a, b, q, some w, l⟩) hlen
    have hnin := nin_cdT c (canC ⟨a, b, q, some w, l⟩)
    rw [decide_eq_true hc] at hnin
    have hw := without_ok (a := a) (b := b) w c (by have := L.la; omega) (by have := L.lb; omega)
    rw [rm_both L.cn] at hw
    have la := rmC_len a c
    have lb := rmC_len b c
    have l1 := L.la; have l2 := L.lb; have l3 := L.lq
    have hg := gainC_ok (l := q ++ [c]) (by simp) (by simp; omega) L.qn L.qo
    have hs := sum_of_ok (q ++ [c]) (by simp; omega)
    obtain ⟨g, eg⟩ : ∃ g, g = gainC (q ++ [c]) := ⟨_, rfl⟩
    obtain ⟨had, eh⟩ : ∃ had, had = (if 0 < g then [(w, g)] else []) := ⟨_, rfl⟩
    rw [← eg] at hg
    rw [F_lay_def]
    apply run_rt
    show B_lay [.va (plD _), .va (cdD c), .no, .no, .no, .no, .no, .no] = _
    unfold B_lay
    refine s_ifF (eT (e2 rfl (eC (eArgs (eCons rfl rfl) rfl) hcan) hnin) rfl) (s_next ?_)
    refine s_asg (ρ1 := [.va (plD ⟨a, b, q, some w, l⟩), .va (cdD c), .va (hsD a b), .va (cdT q), .va (.int (bI w)), .va (whD l), .no, .no]) rfl rfl ?_
    refine s_set (eC (ds := [hsD a b, .int (bI w), cdD c]) (eArgs (eCons rfl (eCons rfl (eCons rfl rfl))) rfl) hw) ?_
    refine s_set (e2 (d := cdT q) (e := cdT [c]) rfl (eTup (eCons rfl rfl) (by simp)) (cat_cdT _ _ (by simp; omega))) ?_
    refine s_set (d := .tuple []) rfl ?_
    refine s_nx (ρ1 := [.va (plD ⟨a, b, q, some w, l⟩), .va (cdD c), .va (hsD (rmC a c) (rmC b c)), .va (cdT (q ++ [c])), .va (.int (bI w)), .va (whD l), .va (.tuple (hadD had)), .no]) ?_ ?_
    · have hcond : cT1 asB (c2 gtD (cCall F_gain (cArgs 1 (cCons (cV 3) cNil))) (cC (.int 0))) [.va (plD ⟨a, b, q, some w, l⟩), .va (cdD c), .va (hsD (rmC a c) (rmC b c)), .va (cdT (q ++ [c])), .va (.int (bI w)), .va (whD l), .va (.tuple []), .no] = some (decide (0 < g)) :=
        eT (e2 (eC (eArgs (eCons rfl rfl) rfl) hg) rfl rfl) rfl
      by_cases hz : 0 < g
      · rw [eh, if_pos hz]
        refine i_T (hcond.trans (congrArg some (decide_eq_true hz))) (set_nx (d := .tuple [.tuple [.int (bI w), .int g]]) (eTup (eCons (eTup (eCons rfl (eCons (eC (eArgs (eCons rfl rfl) rfl) hg) rfl)) (by simp)) rfl) (by simp)))
      · rw [eh, if_neg hz]
        exact i_F (hcond.trans (congrArg some (decide_eq_false hz))) rfl
    have hcb : ∀ (t : Bool), F_can_be [cdT (handOf (rmC a c) (rmC b c) t), cdT (q ++ [c])] = some (cdT (canB (handOf (rmC a c) (rmC b c) t) (q ++ [c]))) := fun t =>
      can_be_ok (by cases t; show (rmC a c).length ≤ 1000; omega; show (rmC b c).length ≤ 1000; omega) (by simp; omega)
    have hct : ∀ (t : Bool) , cT1 asB (c2 gtD (cCall lenD (cCons (cCall F_can_be (cArgs 2 (cCons (c2 ixD (cV 2) (cV 7)) (cCons (cV 3) cNil)))) cNil)) (cC (.int 0))) [.va (plD ⟨a, b, q, some w, l⟩), .va (cdD c), .va (hsD (rmC a c) (rmC b c)), .va (cdT (q ++ [c])), .va (.int (bI w)), .va (whD l), .va (.tuple (hadD had)), .va (.int (bI t))] = some (decide (canB (handOf (rmC a c) (rmC b c) t) (q ++ [c]) ≠ [])) := fun t => by
      refine (eT (e2 (eC (eCons (eC (eArgs (eCons (e2 rfl rfl (hs_ix _ _ t)) (eCons rfl rfl)) rfl) (hcb t)) rfl) (len_cdT _)) rfl rfl) rfl).trans ?_
      show some (decide ((0 : Int) < ((canB (handOf (rmC a c) (rmC b c) t) (q ++ [c])).length : Nat))) = _
      congr 1
      rw [decide_eq_decide]
      cases canB (handOf (rmC a c) (rmC b c) t) (q ++ [c]) with
      | nil => simp
      | cons x y => simp; try omega
    have hit : cItT (cTup (cCons (c2 subD (cC (.int 1)) (cV 4)) (cCons (cV 4) cNil))) [.va (plD ⟨a, b, q, some w, l⟩), .va (cdD c), .va (hsD (rmC a c) (rmC b c)), .va (cdT (q ++ [c])), .va (.int (bI w)), .va (whD l), .va (.tuple (hadD had)), .no] = some [.int (bI (!w)), .int (bI w)] :=
      eItT (eTup (eCons (e2 rfl rfl (one_sub w)) (eCons rfl rfl)) (by simp))
    have hL : layC ⟨a, b, q, some w, l⟩ c = (if canB (handOf (rmC a c) (rmC b c) (!w)) (q ++ [c]) ≠ [] then (⟨rmC a c, rmC b c, q ++ [c], some (!w), some w⟩, had)
        else if canB (handOf (rmC a c) (rmC b c) w) (q ++ [c]) ≠ [] then (⟨rmC a c, rmC b c, q ++ [c], some w, some w⟩, had)
        else (⟨rmC a c, rmC b c, [], firstT (rmC a c) (rmC b c) (!w), none⟩, if sumC (q ++ [c]) ≠ 31 then had ++ [(w, 1)] else had)) := by
      rw [eh, eg]; rfl
    rw [hL]
    have hret : ∀ t : Bool, cRet (cTup (cCons (cTup (cCons (cV 2) (cCons (cV 3) (cCons (cV 7) (cCons (cV 4) cNil))))) (cCons (cV 6) cNil))) [.va (plD ⟨a, b, q, some w, l⟩), .va (cdD c), .va (hsD (rmC a c) (rmC b c)), .va (cdT (q ++ [c])), .va (.int (bI w)), .va (whD l), .va (.tuple (hadD had)), .va (.int (bI t))] = some (.rt (.tuple [plD ⟨rmC a c, rmC b c, q ++ [c], some t, some w⟩, .tuple (hadD had)])) := fun t =>
      r_ret (eTup (eCons (eTup (eCons rfl (eCons rfl (eCons rfl (eCons rfl rfl)))) (by simp)) (eCons rfl rfl)) (by simp)) rfl
    by_cases z1 : canB (handOf (rmC a c) (rmC b c) (!w)) (q ++ [c]) ≠ []
    · rw [if_pos z1]
      exact s_forR hit (forL_rt rfl (i_T ((hct (!w)).trans (congrArg some (decide_eq_true z1))) (hret (!w)))) rfl
    · rw [if_neg z1]
      by_cases z2 : canB (handOf (rmC a c) (rmC b c) w) (q ++ [c]) ≠ []
      · rw [if_pos z2]
        exact s_forR hit ((forL_cons (ρ1 := [.va (plD ⟨a, b, q, some w, l⟩), .va (cdD c), .va (hsD (rmC a c) (rmC b c)), .va (cdT (q ++ [c])), .va (.int (bI w)), .va (whD l), .va (.tuple (hadD had)), .va (.int (bI (!w)))]) (ρ2 := [.va (plD ⟨a, b, q, some w, l⟩), .va (cdD c), .va (hsD (rmC a c) (rmC b c)), .va (cdT (q ++ [c])), .va (.int (bI w)), .va (whD l), .va (.tuple (hadD had)), .va (.int (bI (!w)))]) rfl (i_F ((hct (!w)).trans (congrArg some (decide_eq_false z1))) rfl)).trans (forL_rt (ρ1 := [.va (plD ⟨a, b, q, some w, l⟩), .va (cdD c), .va (hsD (rmC a c) (rmC b c)), .va (cdT (q ++ [c])), .va (.int (bI w)), .va (whD l), .va (.tuple (hadD had)), .va (.int (bI w))]) rfl (i_T ((hct w).trans (congrArg some (decide_eq_true z2))) (hret w)))) rfl
      · rw [if_neg z2]
        refine s_for hit ((forL_cons (ρ1 := [.va (plD ⟨a, b, q, some w, l⟩), .va (cdD c), .va (hsD (rmC a c) (rmC b c)), .va (cdT (q ++ [c])), .va (.int (bI w)), .va (whD l), .va (.tuple (hadD had)), .va (.int (bI (!w)))]) (ρ2 := [.va (plD ⟨a, b, q, some w, l⟩), .va (cdD c), .va (hsD (rmC a c) (rmC b c)), .va (cdT (q ++ [c])), .va (.int (bI w)), .va (whD l), .va (.tuple (hadD had)), .va (.int (bI (!w)))]) rfl (i_F ((hct (!w)).trans (congrArg some (decide_eq_false z1))) rfl)).trans (forL_cons (ρ1 := [.va (plD ⟨a, b, q, some w, l⟩), .va (cdD c), .va (hsD (rmC a c) (rmC b c)), .va (cdT (q ++ [c])), .va (.int (bI w)), .va (whD l), .va (.tuple (hadD had)), .va (.int (bI w))]) (ρ2 := [.va (plD ⟨a, b, q, some w, l⟩), .va (cdD c), .va (hsD (rmC a c) (rmC b c)), .va (cdT (q ++ [c])), .va (.int (bI w)), .va (whD l), .va (.tuple (hadD had)), .va (.int (bI w))]) rfl (i_F ((hct w).trans (congrArg some (decide_eq_false z2))) rfl))) ?_
        refine s_nx (ρ1 := [.va (plD ⟨a, b, q, some w, l⟩), .va (cdD c), .va (hsD (rmC a c) (rmC b c)), .va (cdT (q ++ [c])), .va (.int (bI w)), .va (whD l), .va (.tuple (hadD (if sumC (q ++ [c]) ≠ 31 then had ++ [(w, 1)] else had))), .va (.int (bI w))]) ?_ ?_
        · by_cases z3 : sumC (q ++ [c]) = 31
          · rw [if_neg (fun k => k z3)]
            refine i_F ((eT (e2 (eC (eArgs (eCons rfl rfl) rfl) hs) rfl (ne_int _ _)) rfl).trans ?_) rfl
            show some (!decide _) = _
            rw [decide_eq_true z3]; rfl
          · rw [if_pos z3]
            refine i_T ((eT (e2 (eC (eArgs (eCons rfl rfl) rfl) hs) rfl (ne_int _ _)) rfl).trans ?_) ?_
            · show some (!decide _) = _
              rw [decide_eq_false z3]; rfl
            · refine set_nx (d := .tuple (hadD (had ++ [(w, 1)]))) (e2 (d := .tuple (hadD had)) (e := .tuple [.tuple [.int (bI w), .int 1]]) rfl (eTup (eCons (eTup (eCons rfl (eCons rfl rfl)) (by simp)) rfl) (by simp)) ?_)
              show (if (hadD had).length + 1 ≤ lim then some (PyData.tuple (hadD had ++ [.tuple [.int (bI w), .int 1]])) else none) = _
              rw [had_app, if_pos]
              refine Nat.le_of_lt (lim_of ?_)
              rw [eh]
              split <;> simp [hadD]
        · have hb := begin_ok (rmC a c) (rmC b c) (!w)
          unfold beginC at hb
          rw [cdsort_id (pw_rmC c L.s0), cdsort_id (pw_rmC c L.s1)] at hb
          exact r_ret (eTup (eCons (eC (ds := [cdT (rmC a c), cdT (rmC b c), .int (bI (!w))]) (eArgs (eCons rfl (eCons rfl (eCons (e2 rfl rfl (one_sub w)) rfl))) rfl) hb) (eCons rfl rfl)) (by simp)) rfl
/-! ### a card laid, by the law -/
theorem int_bool (b : Prop) [Decidable b] : intD [.bool (decide b)] = some (.int (if b then 1 else 0)) := by
  show some (PyData.int (if decide b = true then 1 else 0)) = _
  simp only [decide_eq_true_eq]
theorem law_rm_ok {a b : List Cd} {c : Cd} {ρ : Ev} (h0 : a.length ≤ 1000) (h1 : b.length ≤ 1000) (e0 : ρ[2]? = some (.va (hsD a b))) (e1 : ρ[1]? = some (.va (cdD c))) (hl : ρ.length = 10) :
    cCall tupleD (cCons (cL (cLc (cItT (cV 2)) [7] (gV 7) cYes (cCall tupleD (cCons (cL (cLc (cItT (cV 7)) [6] (gV 6) (cT1 asB (c2 neD (cV 6) (cV 1))) (cV 6))) cNil)))) cNil) ρ = some (hsD (rmC a c) (rmC b c)) := by
  obtain ⟨x0, x1, x2, x3, x4, x5, x6, x7, x8, x9, rfl⟩ : ∃ x0 x1 x2 x3 x4 x5 x6 x7 x8 x9, ρ = [x0, x1, x2, x3, x4, x5, x6, x7, x8, x9] := by
    match ρ, hl with
    | [x0, x1, x2, x3, x4, x5, x6, x7, x8, x9], _ => exact ⟨_, _, _, _, _, _, _, _, _, _, rfl⟩
  cases e0
  cases e1
  refine eC (ds := [.list [cdT (rmC a c), cdT (rmC b c)]]) (eCons ?_ rfl) rfl
  refine eLcA (l := [a, b]) (enc := cdT) (out := fun l => cdT (rmC l c)) (eItT rfl) (by simp) fun l hm => ⟨[x0, .va (cdD c), .va (hsD a b), x3, x4, x5, x6, .va (cdT l), x8, x9], rfl, ?_⟩
  have hl : l.length ≤ 1000 := by
    rcases List.mem_cons.mp hm with rfl | hm
    · exact h0
    · rcases List.mem_cons.mp hm with rfl | hm
      · exact h1
      · cases hm
  refine eC (ds := [cdL (rmC l c)]) (eCons ?_ rfl) rfl
  exact eLcM (l := l) (enc := cdD) (out := cdD) (p := fun x => !decide (x = c)) (eItT rfl) (by omega) fun x _ => ⟨[x0, .va (cdD c), .va (hsD a b), x3, x4, x5, .va (cdD x), .va (cdT l), x8, x9], rfl, eT (e2 rfl rfl (ne_cd x c)) rfl, fun _ => rfl⟩
theorem law_lay_ok {p : Pl} (ok : PlOk p) {c : Cd} (hc : c ∈ canC p) : F_law_lay [plD p, cdD c] = some (.tuple [plD (layC p c).1, .list (hadD (layC p c).2)]) := by
  obtain ⟨a, b, q, t, l⟩ := p
  cases t with
  | none => cases hc
  | some w =>
    have L := layOk_of ok hc
    have la := rmC_len a c
    have lb := rmC_len b c
    have l1 := L.la; have l2 := L.lb; have l3 := L.lq
    have hg := law_gainC_ok (l := q ++ [c]) (by simp) (by simp; omega)
    have hs := law_sum_ok (q ++ [c]) (by simp; omega)
    have hle : sumC (q ++ [c]) ≤ 31 := by rw [sumC_app]; exact L.le
    obtain ⟨g, eg⟩ : ∃ g, g = gainC (q ++ [c]) := ⟨_, rfl⟩
    obtain ⟨had, eh⟩ : ∃ had, had = (if 0 < g then [(w, g)] else []) := ⟨_, rfl⟩
    rw [← eg] at hg
    rw [F_law_lay_def]
    apply run_rt
    show B_law_lay [.va (plD _), .va (cdD c), .no, .no, .no, .no, .no, .no, .no, .no] = _
    unfold B_law_lay
    refine s_asg (ρ1 := [.va (plD ⟨a, b, q, some w, l⟩), .va (cdD c), .va (hsD a b), .va (cdT q), .va (.int (bI w)), .va (whD l), .no, .no, .no, .no]) rfl rfl ?_
    refine s_set (law_rm_ok (a := a) (b := b) (c := c) (by omega) (by omega) rfl rfl rfl) ?_
    refine s_set (e2 (d := cdT q) (e := cdT [c]) rfl (eTup (eCons rfl rfl) (by simp)) (cat_cdT _ _ (by simp; omega))) ?_
    refine s_set (d := .list (hadD had)) ?_ ?_
    · refine e2 (d := .list [.tuple [.int (bI w), .int g]]) (e := .int (if 0 < g then 1 else 0)) (eL (eChk (eCons (eTup (eCons rfl (eCons (eC (ds := [cdT (q ++ [c])]) (eArgs (eCons rfl rfl) rfl) hg) rfl)) (by simp)) rfl) (by simp))) (eC (ds := [.bool (decide (0 < g))]) (eCons (e2 (eC (ds := [cdT (q ++ [c])]) (eArgs (eCons rfl rfl) rfl) hg) rfl rfl) rfl) (int_bool _)) ?_
      rw [eh]
      by_cases z : 0 < g
      · rw [if_pos z, if_pos z]; rfl
      · rw [if_neg z, if_neg z]; rfl
    obtain ⟨S, eS⟩ : ∃ S : Sl → Ev, S = fun x => [.va (plD ⟨a, b, q, some w, l⟩), .va (cdD c), .va (hsD (rmC a c) (rmC b c)), .va (cdT (q ++ [c])), .va (.int (bI w)), .va (whD l), .no, .no, .va (.list (hadD had)), x] := ⟨_, rfl⟩
    have hcan : ∀ t : Bool, F_law_can [plD ⟨rmC a c, rmC b c, q ++ [c], some t, some w⟩] = some (cdL (canB (handOf (rmC a c) (rmC b c) t) (q ++ [c]))) := fun t =>
      law_can_ok (p := ⟨rmC a c, rmC b c, q ++ [c], some t, some w⟩) (by simp; omega)
    have hct : ∀ (t : Bool), cT1 asB (c2 neD (cCall F_law_can (cArgs 1 (cCons (cTup (cCons (cV 2) (cCons (cV 3) (cCons (cV 9) (cCons (cV 4) cNil))))) cNil))) (cL (chk 1000 cNil))) (S (.va (.int (bI t)))) = some (decide (canB (handOf (rmC a c) (rmC b c) t) (q ++ [c]) ≠ [])) := fun t => by
      rw [eS]
      refine (eT (e2 (eC (ds := [plD ⟨rmC a c, rmC b c, q ++ [c], some t, some w⟩]) (eArgs (eCons (eTup (eCons rfl (eCons rfl (eCons rfl (eCons rfl rfl)))) (by simp)) rfl) rfl) (hcan t)) (eL (eChk rfl (by simp))) (ne_nil (shaped_cds _))) rfl).trans ?_
      show some (!decide _) = _
      congr 1
      cases canB (handOf (rmC a c) (rmC b c) t) (q ++ [c]) <;> rfl
    have hit : cItT (cTup (cCons (c2 subD (cC (.int 1)) (cV 4)) (cCons (cV 4) cNil))) (S .no) = some [.int (bI (!w)), .int (bI w)] := by
      rw [eS]
      exact eItT (eTup (eCons (e2 rfl rfl (one_sub w)) (eCons rfl rfl)) (by simp))
    have hL : layC ⟨a, b, q, some w, l⟩ c = (if canB (handOf (rmC a c) (rmC b c) (!w)) (q ++ [c]) ≠ [] then (⟨rmC a c, rmC b c, q ++ [c], some (!w), some w⟩, had)
        else if canB (handOf (rmC a c) (rmC b c) w) (q ++ [c]) ≠ [] then (⟨rmC a c, rmC b c, q ++ [c], some w, some w⟩, had)
        else (⟨rmC a c, rmC b c, [], firstT (rmC a c) (rmC b c) (!w), none⟩, if sumC (q ++ [c]) ≠ 31 then had ++ [(w, 1)] else had)) := by
      rw [eh, eg]; rfl
    rw [hL]
    have hret : ∀ t : Bool, cRet (cTup (cCons (cTup (cCons (cV 2) (cCons (cV 3) (cCons (cV 9) (cCons (cV 4) cNil))))) (cCons (cV 8) cNil))) (S (.va (.int (bI t)))) = some (.rt (.tuple [plD ⟨rmC a c, rmC b c, q ++ [c], some t, some w⟩, .list (hadD had)])) := fun t => by
      rw [eS]
      exact r_ret (eTup (eCons (eTup (eCons rfl (eCons rfl (eCons rfl (eCons rfl rfl)))) (by simp)) (eCons rfl rfl)) (by simp)) rfl
    have hg9 : ∀ (t : Bool) (x : Sl), gV 9 (.int (bI t)) (S x) = some (S (.va (.int (bI t)))) := fun t x => by rw [eS]; rfl
    show cSeq _ _ [.va (plD ⟨a, b, q, some w, l⟩), .va (cdD c), .va (hsD (rmC a c) (rmC b c)), .va (cdT (q ++ [c])), .va (.int (bI w)), .va (whD l), .no, .no, .va (.list (hadD had)), .no] = _
    rw [show [.va (plD ⟨a, b, q, some w, l⟩), .va (cdD c), .va (hsD (rmC a c) (rmC b c)), .va (cdT (q ++ [c])), .va (.int (bI w)), .va (whD l), .no, .no, .va (.list (hadD had)), .no] = S .no by rw [eS]]
    by_cases z1 : canB (handOf (rmC a c) (rmC b c) (!w)) (q ++ [c]) ≠ []
    · rw [if_pos z1]
      exact s_forR hit (forL_rt (hg9 _ _) (i_T ((hct (!w)).trans (congrArg some (decide_eq_true z1))) (hret (!w)))) rfl
    · rw [if_neg z1]
      by_cases z2 : canB (handOf (rmC a c) (rmC b c) w) (q ++ [c]) ≠ []
      · rw [if_pos z2]
        exact s_forR hit ((forL_cons (hg9 _ _) (i_F ((hct (!w)).trans (congrArg some (decide_eq_false z1))) rfl)).trans (forL_rt (hg9 _ _) (i_T ((hct w).trans (congrArg some (decide_eq_true z2))) (hret w)))) rfl
      · rw [if_neg z2]
        refine s_for hit ((forL_cons (hg9 _ _) (i_F ((hct (!w)).trans (congrArg some (decide_eq_false z1))) rfl)).trans (forL_cons (hg9 _ _) (i_F ((hct w).trans (congrArg some (decide_eq_false z2))) rfl))) ?_
        rw [eS]
        refine s_nx (ρ1 := [.va (plD ⟨a, b, q, some w, l⟩), .va (cdD c), .va (hsD (rmC a c) (rmC b c)), .va (cdT (q ++ [c])), .va (.int (bI w)), .va (whD l), .no, .no, .va (.list (hadD (if sumC (q ++ [c]) ≠ 31 then had ++ [(w, 1)] else had))), .va (.int (bI w))]) ?_ ?_
        · by_cases z3 : sumC (q ++ [c]) = 31
          · rw [if_neg (fun k => k z3)]
            refine i_F ((eT (e2 (eC (ds := [cdT (q ++ [c])]) (eArgs (eCons rfl rfl) rfl) hs) rfl rfl) rfl).trans ?_) rfl
            show some (decide (sumC (q ++ [c]) < 31)) = _
            rw [decide_eq_false (by omega)]
          · rw [if_pos z3]
            refine i_T ((eT (e2 (eC (ds := [cdT (q ++ [c])]) (eArgs (eCons rfl rfl) rfl) hs) rfl rfl) rfl).trans ?_) ?_
            · show some (decide (sumC (q ++ [c]) < 31)) = _
              rw [decide_eq_true (by omega)]
            · refine set_nx (d := .list (hadD (had ++ [(w, 1)]))) (e2 (d := .list (hadD had)) (e := .list [.tuple [.int (bI w), .int 1]]) rfl (eL (eChk (eCons (eTup (eCons rfl (eCons rfl rfl)) (by simp)) rfl) (by simp))) ?_)
              rw [add_list (by rw [eh]; split <;> simp [hadD]), had_app]
        · obtain ⟨hd2, e2d⟩ : ∃ hd2, hd2 = (if sumC (q ++ [c]) ≠ 31 then had ++ [(w, 1)] else had) := ⟨_, rfl⟩
          rw [← e2d]
          obtain ⟨t1, et⟩ : ∃ t1, t1 = (if handOf (rmC a c) (rmC b c) (!w) = [] then w else !w) := ⟨_, rfl⟩
          refine s_set (d := .int (bI t1)) ?_ ?_
          · refine e2 (d := .list [.int (bI (!w)), .int (bI w)]) (e := .int (if handOf (rmC a c) (rmC b c) (!w) = [] then 1 else 0)) (eL (eChk (eCons (e2 rfl rfl (one_sub w)) (eCons rfl rfl)) (by simp))) (eC (ds := [.bool (decide (handOf (rmC a c) (rmC b c) (!w) = []))]) (eCons (e2 (e2 rfl (e2 rfl rfl (one_sub w)) (hs_ix _ _ _)) rfl (eq_cdN _)) rfl) (int_bool _)) ?_
            rw [et]
            by_cases z : handOf (rmC a c) (rmC b c) (!w) = []
            · rw [if_pos z, if_pos z]; rfl
            · rw [if_neg z, if_neg z]; rfl
          · refine s_nx (ρ1 := [.va (plD ⟨a, b, q, some w, l⟩), .va (cdD c), .va (hsD (rmC a c) (rmC b c)), .va (cdT (q ++ [c])), .va (.int (bI w)), .va (whD l), .no, .no, .va (.list (hadD hd2)), .va (whD (firstT (rmC a c) (rmC b c) (!w)))]) ?_ ?_
            · have hq : cT1 asB (c2 eqD (c2 ixD (cV 2) (cV 9)) (cTup cNil)) [.va (plD ⟨a, b, q, some w, l⟩), .va (cdD c), .va (hsD (rmC a c) (rmC b c)), .va (cdT (q ++ [c])), .va (.int (bI w)), .va (whD l), .no, .no, .va (.list (hadD hd2)), .va (.int (bI t1))] = some (decide (handOf (rmC a c) (rmC b c) t1 = [])) :=
                eT (e2 (e2 rfl rfl (hs_ix _ _ _)) rfl (eq_cdN _)) rfl
              unfold firstT
              by_cases y1 : handOf (rmC a c) (rmC b c) (!w) = []
              · rw [if_pos y1] at et
                subst et
                rw [if_neg (fun k => k y1), Bool.not_not]
                by_cases y2 : handOf (rmC a c) (rmC b c) t1 = []
                · rw [if_neg (fun k => k y2)]
                  exact i_T (hq.trans (congrArg some (decide_eq_true y2))) rfl
                · rw [if_pos y2]
                  exact i_F (hq.trans (congrArg some (decide_eq_false y2))) rfl
              · rw [if_neg y1] at et
                subst et
                rw [if_pos y1]
                exact i_F (hq.trans (congrArg some (decide_eq_false y1))) rfl
            · exact r_ret (eTup (eCons (d := plD ⟨rmC a c, rmC b c, [], firstT (rmC a c) (rmC b c) (!w), none⟩) (eTup (eCons rfl (eCons rfl (eCons rfl (eCons rfl rfl)))) (by simp)) (eCons rfl rfl)) (by simp)) rfl
/-! ### plays stay plays -/
theorem rm_perm {a b q : List Cd} {c : Cd} (nd : (a ++ b ++ q).Nodup) (hm : c ∈ a ++ b) : (rmC a c ++ rmC b c ++ (q ++ [c])).Perm (a ++ b ++ q) := by
  have n1 : (a ++ b).Nodup := (List.nodup_append.mp nd).1
  have e : rmC a c ++ rmC b c = (a ++ b).erase c := by
    rw [List.Nodup.erase_eq_filter n1]
    unfold rmC
    rw [← List.filter_append]
    refine List.filter_congr fun x _ => ?_
    rw [bne, Bool.beq_eq_decide_eq]
  rw [e]
  have p1 : (q ++ [c]).Perm (c :: q) := List.perm_append_comm
  refine (List.Perm.append_left _ p1).trans ?_
  refine (List.perm_middle).trans ?_
  exact (List.Perm.append_right q (List.perm_cons_erase hm).symm)
theorem firstT_none {a b : List Cd} {t : Bool} (h : firstT a b t = none) : a = [] ∧ b = [] := by
  unfold firstT at h
  split at h
  · cases h
  · rename_i h1
    split at h
    · cases h
    · rename_i h2
      cases t with
      | false => exact ⟨by simpa [handOf] using h1, by simpa [handOf] using h2⟩
      | true => exact ⟨by simpa [handOf] using h2, by simpa [handOf] using h1⟩
theorem firstT_some {a b : List Cd} {t w : Bool} (h : firstT a b t = some w) : handOf a b w ≠ [] := by
  unfold firstT at h
  split at h
  · rename_i h1; cases h; exact h1
  · split at h
    · rename_i h2; cases h; exact h2
    · cases h
theorem canB_nil {hand : List Cd} (h : hand ≠ []) : canB hand [] ≠ [] := by
  cases hand with
  | nil => exact absurd rfl h
  | cons c l =>
    intro e
    have : c ∈ canB (c :: l) [] := List.mem_filter.mpr ⟨List.mem_cons_self, by
      show decide (sumC [] + min c.1 10 ≤ 31) = true
      refine decide_eq_true ?_
      show (0 : Int) + min c.1 10 ≤ 31
      omega⟩
    rw [e] at this; cases this
theorem plOk_first {a b : List Cd} (t : Bool) (s0 : a.Pairwise fun a b => leC a b = true) (s1 : b.Pairwise fun a b => leC a b = true) (nd : (a ++ b).Nodup) (ok : ∀ c ∈ a ++ b, CdOk c) (len : (a ++ b).length ≤ 20) : PlOk ⟨a, b, [], firstT a b t, none⟩ where
  s0 := s0
  s1 := s1
  nd := by simpa using nd
  ok := by simpa using ok
  len := by simpa using len
  tn := fun h => ⟨(firstT_none h).1, (firstT_none h).2, rfl, rfl⟩
  cn := fun w h => by
    have h : firstT a b t = some w := h
    unfold canC
    show (match firstT a b t with | none => [] | some w => canB (handOf a b w) []) ≠ []
    rw [h]
    exact canB_nil (firstT_some h)
theorem beginC_ok {a b : List Cd} (t : Bool) (nd : (a ++ b).Nodup) (ok : ∀ c ∈ a ++ b, CdOk c) (len : (a ++ b).length ≤ 20) : PlOk (beginC a b t) := by
  have p : (cdsort a ++ cdsort b).Perm (a ++ b) := (cdsort_perm a).append (cdsort_perm b)
  exact plOk_first t (cdsort_le a) (cdsort_le b) (p.nodup_iff.mpr nd) (fun c hc => ok c (p.mem_iff.mp hc)) (by rw [p.length_eq]; exact len)
theorem layC_ok {p : Pl} (ok : PlOk p) {c : Cd} (hc : c ∈ canC p) : PlOk (layC p c).1 ∧ (layC p c).1.h0.length + (layC p c).1.h1.length + 1 = p.h0.length + p.h1.length := by
  obtain ⟨a, b, q, t, l⟩ := p
  cases t with
  | none => cases hc
  | some w =>
    have L := layOk_of ok hc
    have hm : c ∈ a ++ b := by
      have := L.cm
      cases w with
      | false => exact List.mem_append_left _ this
      | true => exact List.mem_append_right _ this
    have P := rm_perm (q := q) (c := c) ok.nd hm
    have nd := P.nodup_iff.mpr ok.nd
    have o2 : ∀ x ∈ rmC a c ++ rmC b c ++ (q ++ [c]), CdOk x := fun x hx => ok.ok x (P.mem_iff.mp hx)
    have l2 : (rmC a c ++ rmC b c ++ (q ++ [c])).length ≤ 20 := by rw [P.length_eq]; exact ok.len
    have cnt : (rmC a c).length + (rmC b c).length + 1 = a.length + b.length := by
      have := P.length_eq
      simp only [List.length_append, List.length_cons, List.length_nil] at this
      omega
    have full : ∀ t : Bool, canB (handOf (rmC a c) (rmC b c) t) (q ++ [c]) ≠ [] → PlOk ⟨rmC a c, rmC b c, q ++ [c], some t, some w⟩ := fun t h =>
      ⟨pw_rmC c ok.s0, pw_rmC c ok.s1, nd, o2, l2, fun z => (nomatch z), fun w' z => (by cases z; exact h)⟩
    have hL : layC ⟨a, b, q, some w, l⟩ c = (if canB (handOf (rmC a c) (rmC b c) (!w)) (q ++ [c]) ≠ [] then (⟨rmC a c, rmC b c, q ++ [c], some (!w), some w⟩, if 0 < gainC (q ++ [c]) then [(w, gainC (q ++ [c]))] else [])
        else if canB (handOf (rmC a c) (rmC b c) w) (q ++ [c]) ≠ [] then (⟨rmC a c, rmC b c, q ++ [c], some w, some w⟩, if 0 < gainC (q ++ [c]) then [(w, gainC (q ++ [c]))] else [])
        else (⟨rmC a c, rmC b c, [], firstT (rmC a c) (rmC b c) (!w), none⟩, if sumC (q ++ [c]) ≠ 31 then (if 0 < gainC (q ++ [c]) then [(w, gainC (q ++ [c]))] else []) ++ [(w, 1)] else (if 0 < gainC (q ++ [c]) then [(w, gainC (q ++ [c]))] else []))) := rfl
    rw [hL]
    by_cases z1 : canB (handOf (rmC a c) (rmC b c) (!w)) (q ++ [c]) ≠ []
    · rw [if_pos z1]; exact ⟨full _ z1, cnt⟩
    · rw [if_neg z1]
      by_cases z2 : canB (handOf (rmC a c) (rmC b c) w) (q ++ [c]) ≠ []
      · rw [if_pos z2]; exact ⟨full _ z2, cnt⟩
      · rw [if_neg z2]
        refine ⟨plOk_first (!w) (pw_rmC c ok.s0) (pw_rmC c ok.s1) (List.nodup_append.mp nd).1 (fun x hx => o2 x (List.mem_append_left _ hx)) ?_, cnt⟩
        have := l2
        rw [List.length_append] at this
        omega
theorem canC_sub {p : Pl} {c : Cd} (hc : c ∈ canC p) : c ∈ p.h0 ++ p.h1 := by
  obtain ⟨a, b, q, t, l⟩ := p
  cases t with
  | none => cases hc
  | some w =>
    have h1 := (List.mem_filter.mp hc).1
    cases w with
    | false => exact List.mem_append_left _ h1
    | true => exact List.mem_append_right _ h1
theorem end_pl {p : Pl} (ok : PlOk p) (h : canC p = []) : p = ⟨[], [], [], none, none⟩ := by
  obtain ⟨a, b, q, t, l⟩ := p
  cases t with
  | none =>
    obtain ⟨rfl, rfl, rfl, rfl⟩ := ok.tn rfl
    rfl
  | some w => exact absurd h (ok.cn w rfl)
/-! ### shapes of plays -/
theorem lay_cdT (l : List Cd) : PyData.canLay0 (cdT l) = true := canLay_cds l
theorem dep_cdT (l : List Cd) : PyData.depth (cdT l) ≤ 2 := by
  have := depthAll_cds l
  show PyData.depth (.tuple (l.map cdD)) ≤ 2
  simp only [PyData.depth]; omega
theorem lay_pl (p : Pl) : PyData.canLay0 (plD p) = true ∧ PyData.depth (plD p) ≤ 5 := by
  have h0 := lay_cdT p.h0; have h1 := lay_cdT p.h1; have h2 := lay_cdT p.pile
  have d0 := dep_cdT p.h0; have d1 := dep_cdT p.h1; have d2 := dep_cdT p.pile
  have hw : ∀ t : Option Bool, PyData.canLay0 (whD t) = true ∧ PyData.depth (whD t) ≤ 1 := fun t => by cases t <;> simp [whD, PyData.canLay0, PyData.depth]
  obtain ⟨w1, w2⟩ := hw p.turn
  obtain ⟨w3, w4⟩ := hw p.last
  unfold plD hsD
  simp only [PyData.canLay0, PyData.canLayAll0, PyData.depth, PyData.depthAll, h0, h1, h2, w1, w3, Bool.and_true, Bool.true_and, true_and]
  omega
theorem lay_had (l : List (Bool × Int)) : PyData.canLayAll0 (hadD l) = true ∧ PyData.depthAll (hadD l) ≤ 2 := by
  induction l with
  | nil => exact ⟨rfl, by simp [hadD, PyData.depthAll]⟩
  | cons x l ih =>
    obtain ⟨i1, i2⟩ := ih
    unfold hadD at i1 i2 ⊢
    rw [List.map_cons]
    simp only [PyData.canLayAll0, PyData.canLay0, PyData.depthAll, PyData.depth, i1, Bool.and_true, true_and]
    omega
theorem shaped_pl (p : Pl) : SeqAt.shaped (plD p) = true := by
  obtain ⟨h1, h2⟩ := lay_pl p
  show (PyData.canLay0 (plD p) && decide (PyData.depth (plD p) ≤ 64)) = true
  rw [h1, decide_eq_true (by omega)]; rfl
theorem shaped_laid (p : Pl) (l : List (Bool × Int)) : SeqAt.shaped (.tuple [plD p, .tuple (hadD l)]) = true := by
  obtain ⟨h1, h2⟩ := lay_pl p
  obtain ⟨h3, h4⟩ := lay_had l
  refine shaped_tup1 fun d hd => ?_
  rcases List.mem_cons.mp hd with rfl | hd
  · exact ⟨h1, by omega⟩
  · rcases List.mem_cons.mp hd with rfl | hd
    · refine ⟨h3, ?_⟩
      simp only [PyData.depth]; omega
    · cases hd
/-! ### is_card of any thing -/
def wholeB (d : D) (lo hi : Int) : Bool := match d with
  | .int i => decide (lo ≤ i) && decide (i ≤ hi)
  | _ => false
def icB (d : D) : Bool := match d with
  | .tuple [a, b] => wholeB a 1 13 && wholeB b 0 3
  | _ => false
def nd (d : D) : Bool := match d with
  | .dict _ => false
  | _ => true
def nd2 (d : D) : Bool := match d with
  | .dict _ => false
  | .tuple ds => ds.all nd
  | _ => true
def isTup (d : D) : Bool := match d with
  | .tuple _ => true
  | _ => false
theorem isi_tupB {d : D} (h : nd d = true) : isiD "tuple" d = some (.bool (isTup d)) := by
  cases d <;> first | (cases h; done) | simp [isiD, isTup]
def isIntB (d : D) : Bool := match d with
  | .int _ => true
  | .bool _ => true
  | _ => false
def isBoolB (d : D) : Bool := match d with
  | .bool _ => true
  | _ => false
theorem isi_intB {d : D} (h : nd d = true) : isiD "int" d = some (.bool (isIntB d)) := by
  cases d <;> first | (cases h; done) | simp [isiD, isIntB]
theorem isi_boolB {d : D} (h : nd d = true) : isiD "bool" d = some (.bool (isBoolB d)) := by
  cases d <;> first | (cases h; done) | simp [isiD, isBoolB]
theorem chn_le {ρ : Ev} {f h l : EF} {a b c : Int} (h1 : f ρ = some (.int a)) (h2 : h ρ = some (.int b)) (h3 : l ρ = some (.int c)) : cChn leD leD f h l ρ = some (.bool (decide (a ≤ b) && decide (b ≤ c))) := by
  unfold cChn
  rw [h1, h2]
  show (if decide (a ≤ b) = true then _ else _) = _
  by_cases q : a ≤ b
  · rw [if_pos (decide_eq_true q), h3, decide_eq_true q]; rfl
  · rw [if_neg (by rw [decide_eq_false q]; decide), decide_eq_false q]; rfl
theorem is_whole_ok {d : D} (h : nd d = true) (lo hi : Int) : F_is_whole [d, .int lo, .int hi] = some (.bool (wholeB d lo hi)) := by
  rw [F_is_whole_def]
  apply run_rt
  show B_is_whole [.va d, .va (.int lo), .va (.int hi)] = _
  unfold B_is_whole
  refine r_ret (d := .bool (wholeB d lo hi)) ?_ rfl
  have h1 : c1 (isiD "int") (cV 0) [.va d, .va (.int lo), .va (.int hi)] = some (.bool (isIntB d)) := e1 rfl (isi_intB h)
  have h2 : c1 notD (c1 (isiD "bool") (cV 0)) [.va d, .va (.int lo), .va (.int hi)] = some (.bool (!isBoolB d)) := e1 (e1 rfl (isi_boolB h)) rfl
  cases d with
  | int i => exact andV_T h1 (andV_T h2 (chn_le rfl rfl rfl))
  | bool b => exact andV_T h1 (andV_F h2)
  | _ => exact andV_F h1
theorem len_tup (ds : List D) : lenD [.tuple ds] = some (.int (ds.length : Nat)) := rfl
theorem ic_two {ds : List D} (h : icB (.tuple ds) = true) : ds.length = 2 := by
  match ds with
  | [] => cases h
  | [a] => cases h
  | [a, b] => rfl
  | a :: b :: c :: t => cases h
theorem is_card_ok {d : D} (h : nd2 d = true) : F_is_card [d] = some (.bool (icB d)) := by
  rw [F_is_card_def]
  apply run_rt
  show B_is_card [.va d] = _
  unfold B_is_card
  have hn : nd d = true := by cases d <;> first | rfl | exact h
  have h1 : cNot (cT1 asB (c1 (isiD "tuple") (cV 0))) [.va d] = some (!isTup d) := not_1 (eT (e1 rfl (isi_tupB hn)) rfl)
  cases d with
  | tuple ds =>
    have h2 : cT1 asB (c2 neD (cCall lenD (cCons (cV 0) cNil)) (cC (.int 2))) [.va (.tuple ds)] = some (!decide ((ds.length : Int) = 2)) := eT (e2 (eC (eCons rfl rfl) (len_tup ds)) rfl (ne_int _ _)) rfl
    by_cases q : ds.length = 2
    · rw [decide_eq_true (by omega)] at h2
      obtain ⟨a, b, rfl⟩ : ∃ a b, ds = [a, b] := by
        match ds, q with
        | [a, b], _ => exact ⟨a, b, rfl⟩
      have ha : nd a = true := by simp [nd2] at h; exact h.1
      have hb : nd b = true := by simp [nd2] at h; exact h.2
      refine s_ifF (or_F h1 h2) (s_next (r_ret (d := .bool (icB (.tuple [a, b]))) (andV_2 ?_ ?_) rfl))
      · exact eC (ds := [a, .int 1, .int 13]) (eArgs (eCons (e2 (d := .tuple [a, b]) (e := .int 0) rfl rfl rfl) (eCons rfl (eCons rfl rfl))) rfl) (is_whole_ok ha 1 13)
      · exact eC (ds := [b, .int 0, .int 3]) (eArgs (eCons (e2 (d := .tuple [a, b]) (e := .int 1) rfl rfl rfl) (eCons rfl (eCons rfl rfl))) rfl) (is_whole_ok hb 0 3)
    · rw [decide_eq_false (by omega)] at h2
      refine s_ifT (or_F h1 h2) (s_ret (d := .bool false) rfl ?_)
      cases e : icB (.tuple ds) with
      | false => rfl
      | true => exact absurd (ic_two e) q
  | dict _ => cases h
  | _ => exact s_ifT (or_T h1) (s_ret (d := .bool false) rfl rfl)
/-! ### cut, drawn, who -/
theorem cut_mid (ds : List D) (i k : Nat) (h0 : i ≤ k) (h1 : k ≤ ds.length) : cutL ds (some (i : Int)) (some (k : Int)) = (ds.drop i).take (k - i) := by
  unfold cutL
  rw [sIx_n _ (k : Int) (by omega) (by omega), sIx_n _ (i : Int) (by omega) (by omega), Int.toNat_natCast, Int.toNat_natCast]
theorem len_cdL (l : List Cd) : lenD [cdL l] = some (.int (l.length : Nat)) := by
  show some (PyData.int ((l.map cdD).length : Nat)) = _
  rw [List.length_map]
theorem drawn_one {l : List Cd} (h : l ≠ []) (hl : l.length < 1000000) {m : Int} (m0 : 0 ≤ m) : ∃ c, c ∈ l ∧ ∃ i : Nat, m % (l.length : Nat) = (i : Int) ∧ l[i]? = some c := by
  have hp : 0 < l.length := List.length_pos_iff.mpr h
  have h1 := Int.emod_nonneg m (b := (l.length : Nat)) (by omega)
  have h2 := Int.emod_lt_of_pos m (b := (l.length : Nat)) (by omega)
  have hi : (m % (l.length : Nat)).toNat < l.length := by omega
  exact ⟨l[(m % (l.length : Nat)).toNat], List.getElem_mem _, (m % (l.length : Nat)).toNat, by omega, List.getElem?_eq_getElem hi⟩
theorem bI_of {t : Int} (h0 : 0 ≤ t) (h1 : t < 2) : ∃ w : Bool, t = bI w := by
  have : t = 0 ∨ t = 1 := by omega
  rcases this with rfl | rfl
  · exact ⟨false, rfl⟩
  · exact ⟨true, rfl⟩
theorem nodup_two {cs : List Cd} (hd : cs.Nodup) (i k : Nat) (h : i ≤ 4) : (cs.take i ++ (cs.drop 4).take k).Nodup := by
  have h1 : (cs.take 4 ++ cs.drop 4).Nodup := by rw [List.take_append_drop]; exact hd
  refine List.Sublist.nodup ?_ h1
  refine List.Sublist.append ?_ (List.take_sublist _ _)
  rw [show cs.take i = (cs.take 4).take i by rw [List.take_take, show min i 4 = i by omega]]
  exact List.take_sublist _ _
/-! ### values of plays -/
def pickI (w : Bool) : List Int → Int
  | [] => 0
  | a :: l => l.foldl (fun x y => if w then min x y else max x y) a
theorem fold_max : ∀ (l : List Int) (a : Int), (l.foldl (fun x y => if false = true then min x y else max x y) a) ∈ a :: l ∧ ∀ y ∈ a :: l, y ≤ l.foldl (fun x y => if false = true then min x y else max x y) a
  | [], a => ⟨List.mem_cons_self, fun y hy => by rw [List.mem_singleton] at hy; subst hy; exact Int.le_refl _⟩
  | b :: l, a => by
    obtain ⟨h1, h2⟩ := fold_max l (max a b)
    have e : (b :: l).foldl (fun x y => if false = true then min x y else max x y) a = l.foldl (fun x y => if false = true then min x y else max x y) (max a b) := rfl
    rw [e]
    refine ⟨?_, fun y hy => ?_⟩
    · rcases List.mem_cons.mp h1 with h1 | h1
      · rw [h1]
        rcases Int.le_total a b with z | z
        · rw [Int.max_eq_right z]; exact List.mem_cons_of_mem _ List.mem_cons_self
        · rw [Int.max_eq_left z]; exact List.mem_cons_self
      · exact List.mem_cons_of_mem _ (List.mem_cons_of_mem _ h1)
    · have h0 := h2 _ List.mem_cons_self
      rcases List.mem_cons.mp hy with rfl | hy
      · omega
      · rcases List.mem_cons.mp hy with rfl | hy
        · omega
        · exact h2 y (List.mem_cons_of_mem _ hy)
theorem fold_min : ∀ (l : List Int) (a : Int), (l.foldl (fun x y => if true = true then min x y else max x y) a) ∈ a :: l ∧ ∀ y ∈ a :: l, l.foldl (fun x y => if true = true then min x y else max x y) a ≤ y
  | [], a => ⟨List.mem_cons_self, fun y hy => by rw [List.mem_singleton] at hy; subst hy; exact Int.le_refl _⟩
  | b :: l, a => by
    obtain ⟨h1, h2⟩ := fold_min l (min a b)
    have e : (b :: l).foldl (fun x y => if true = true then min x y else max x y) a = l.foldl (fun x y => if true = true then min x y else max x y) (min a b) := rfl
    rw [e]
    refine ⟨?_, fun y hy => ?_⟩
    · rcases List.mem_cons.mp h1 with h1 | h1
      · rw [h1]
        rcases Int.le_total a b with z | z
        · rw [Int.min_eq_left z]; exact List.mem_cons_self
        · rw [Int.min_eq_right z]; exact List.mem_cons_of_mem _ List.mem_cons_self
      · exact List.mem_cons_of_mem _ (List.mem_cons_of_mem _ h1)
    · have h0 := h2 _ List.mem_cons_self
      rcases List.mem_cons.mp hy with rfl | hy
      · omega
      · rcases List.mem_cons.mp hy with rfl | hy
        · omega
        · exact h2 y (List.mem_cons_of_mem _ hy)
theorem pick_mem {w : Bool} {l : List Int} (h : l ≠ []) : pickI w l ∈ l := by
  cases l with
  | nil => exact absurd rfl h
  | cons a l => cases w; exact (fold_max l a).1; exact (fold_min l a).1
theorem pick_max {l : List Int} {y : Int} (h : y ∈ l) : y ≤ pickI false l := by
  cases l with
  | nil => cases h
  | cons a l => exact (fold_max l a).2 y h
theorem pick_min {l : List Int} {y : Int} (h : y ∈ l) : pickI true l ≤ y := by
  cases l with
  | nil => cases h
  | cons a l => exact (fold_min l a).2 y h
theorem maxL_pick {l : List Int} (h : l ≠ []) : maxL l = some (pickI false l) := by
  cases e : maxL l with
  | none =>
    have := List.find?_eq_none.mp e (pickI false l) (pick_mem h)
    exact absurd (List.all_eq_true.mpr fun y hy => decide_eq_true (pick_max hy)) this
  | some m =>
    obtain ⟨h1, h2⟩ := maxL_some e
    congr 1
    exact Int.le_antisymm (pick_max h1) (h2 _ (pick_mem h))
theorem minL_pick {l : List Int} (h : l ≠ []) : minL l = some (pickI true l) := by
  cases e : minL l with
  | none =>
    have := List.find?_eq_none.mp e (pickI true l) (pick_mem h)
    exact absurd (List.all_eq_true.mpr fun y hy => decide_eq_true (pick_min hy)) this
  | some m =>
    obtain ⟨h1, h2⟩ := minL_some e
    congr 1
    exact Int.le_antisymm (h2 _ (pick_mem h)) (pick_min h1)
theorem maxD_pick {l : List Int} (h : l ≠ []) : maxD [.list (l.map PyData.int)] = some (.int (pickI false l)) := by
  show (intsD _).bind _ = _
  rw [ints_map]
  show (maxL _).bind _ = _
  rw [maxL_pick h]; rfl
theorem minD_pick {l : List Int} (h : l ≠ []) : minD [.list (l.map PyData.int)] = some (.int (pickI true l)) := by
  show (intsD _).bind _ = _
  rw [ints_map]
  show (minL _).bind _ = _
  rw [minL_pick h]; rfl
/-- [max(some), min(some)][who] -/
theorem pick_ix (l : List Int) (w : Bool) : ixD (.list [.int (pickI false l), .int (pickI true l)]) (.int (bI w)) = some (.int (pickI w l)) := by cases w <;> rfl
/-- what one has more -/
def ldW (who : Bool) (l : List (Bool × Int)) : Int := (l.map fun x => x.2 * (1 - 2 * (if x.1 = who then 0 else 1))).sum
def ldC (l : List (Bool × Int)) : Int := ldW false l
def leftP (p : Pl) : Nat := p.h0.length + p.h1.length
noncomputable def valN : Nat → Pl → Int
  | 0, _ => 0
  | n + 1, p => match p.turn with
    | none => 0
    | some w => pickI w ((canC p).map fun c => ldC (layC p c).2 + valN n (layC p c).1)
noncomputable def valP (p : Pl) : Int := valN (leftP p) p
theorem left_lay {p : Pl} (ok : PlOk p) {c : Cd} (hc : c ∈ canC p) : leftP (layC p c).1 + 1 = leftP p := (layC_ok ok hc).2
theorem left_pos {p : Pl} {c : Cd} (hc : c ∈ canC p) : 0 < leftP p := by
  have := List.length_pos_iff.mpr (List.ne_nil_of_mem (canC_sub hc))
  rw [List.length_append] at this
  exact this
noncomputable def cvC (p : Pl) (c : Cd) : Int := ldC (layC p c).2 + valP (layC p c).1
theorem valP_none {p : Pl} (h : p.turn = none) : valP p = 0 := by
  unfold valP
  cases leftP p with
  | zero => rfl
  | succ n => unfold valN; rw [h]
theorem valP_some {p : Pl} (ok : PlOk p) {w : Bool} (h : p.turn = some w) : valP p = pickI w ((canC p).map (cvC p)) := by
  obtain ⟨c, hc⟩ := List.exists_mem_of_ne_nil _ (ok.cn w h)
  have hp := left_pos hc
  obtain ⟨n, hn⟩ : ∃ n, leftP p = n + 1 := ⟨leftP p - 1, by omega⟩
  unfold valP
  rw [hn]
  unfold valN
  rw [h]
  show pickI w _ = pickI w _
  congr 1
  refine List.map_congr_left fun c hc => ?_
  have := left_lay ok hc
  unfold cvC valP
  rw [show leftP (layC p c).1 = n by omega]
/-! ### keys of plays -/
def cdK (c : Cd) : NestedKey := .tup [.num c.1, .num c.2]
def csK (l : List Cd) : NestedKey := .tup (l.map cdK)
def whK : Option Bool → NestedKey
  | none => .none
  | some b => .num (bI b)
def plKs (p : Pl) : List NestedKey := [.tup [csK p.h0, csK p.h1], csK p.pile, whK p.turn, whK p.last]
def plK (p : Pl) : NestedKey := .tup (plKs p)
theorem datas_cd (l : List Cd) : NestedKey.datas (l.map cdK) = l.map cdD := by
  induction l with
  | nil => rfl
  | cons c l ih => rw [List.map_cons, List.map_cons, NestedKey.datas, ih]; rfl
theorem data_cs (l : List Cd) : (csK l).data = cdT l := by
  unfold csK cdT
  rw [NestedKey.data, datas_cd]
theorem data_wh (t : Option Bool) : (whK t).data = whD t := by cases t <;> rfl
theorem data_pl (p : Pl) : (plK p).data = plD p := by
  unfold plK plKs plD hsD
  simp only [NestedKey.data, NestedKey.datas, data_cs, data_wh]
theorem depth_cds (l : List Cd) : NestedKey.depthAll (l.map cdK) ≤ 1 := by
  induction l with
  | nil => simp [NestedKey.depthAll]
  | cons c l ih => rw [List.map_cons, NestedKey.depthAll]; simp [cdK, NestedKey.depth, NestedKey.depthAll]; omega
theorem depth_pl (p : Pl) : (plK p).depth ≤ 8 := by
  have h0 := depth_cds p.h0; have h1 := depth_cds p.h1; have h2 := depth_cds p.pile
  have hw : ∀ t, (whK t).depth = 0 := fun t => by cases t <;> rfl
  unfold plK plKs csK
  simp only [NestedKey.depth, NestedKey.depthAll, hw]
  omega
theorem cdK_inj {a b : Cd} (h : cdK a = cdK b) : a = b := by
  unfold cdK at h
  simp only [NestedKey.tup.injEq, List.cons.injEq, NestedKey.num.injEq, and_true] at h
  exact Prod.ext h.1 h.2
theorem map_inj {α β : Type} {f : α → β} (hf : ∀ x y, f x = f y → x = y) : ∀ {a b : List α}, a.map f = b.map f → a = b
  | [], [], _ => rfl
  | [], y :: b, h => by cases h
  | x :: a, [], h => by cases h
  | x :: a, y :: b, h => by
    rw [List.map_cons, List.map_cons, List.cons.injEq] at h
    rw [hf _ _ h.1, map_inj hf h.2]
theorem csK_inj : ∀ {a b : List Cd}, csK a = csK b → a = b := by
  intro a b h
  unfold csK at h
  rw [NestedKey.tup.injEq] at h
  exact map_inj (fun x y e => cdK_inj e) h
theorem whK_inj {a b : Option Bool} (h : whK a = whK b) : a = b := by
  cases a with
  | none => cases b with
    | none => rfl
    | some y => cases h
  | some x => cases b with
    | none => cases h
    | some y =>
      unfold whK at h
      rw [NestedKey.num.injEq] at h
      cases x <;> cases y <;> first | rfl | (exact absurd h (by decide))
theorem plK_inj {p q : Pl} (h : plK p = plK q) : p = q := by
  unfold plK plKs at h
  simp only [NestedKey.tup.injEq, List.cons.injEq, and_true] at h
  obtain ⟨⟨h0, h1⟩, h2, h3, h4⟩ := h
  cases p; cases q
  simp only [Pl.mk.injEq]
  exact ⟨csK_inj h0, csK_inj h1, csK_inj h2, whK_inj h3, whK_inj h4⟩
/-- the value of each key -/
noncomputable def vfC (k : NestedKey) : Int := open Classical in if h : ∃ p, plK p = k then valP h.choose else 0
theorem vf_pl (p : Pl) : vfC (plK p) = valP p := by
  have h : ∃ q, plK q = plK p := ⟨p, rfl⟩
  unfold vfC
  rw [dif_pos h, plK_inj h.choose_spec]
/-! ### all plays that may come -/
noncomputable def reachN : Nat → Pl → List Pl
  | 0, p => [p]
  | n + 1, p => p :: (canC p).flatMap fun c => reachN n (layC p c).1
noncomputable def keysP (p : Pl) : List NestedKey := (reachN (leftP p) p).map plK
def InS (S : List NestedKey) (p : Pl) : Prop := ∀ q ∈ reachN (leftP p) p, plK q ∈ S
theorem ins_keys (p : Pl) : InS (keysP p) p := fun q hq => List.mem_map.mpr ⟨q, hq, rfl⟩
theorem InS.self {S : List NestedKey} {p : Pl} (h : InS S p) : plK p ∈ S := h p (by cases leftP p <;> exact List.mem_cons_self)
theorem InS.mono {S S' : List NestedKey} {p : Pl} (h : InS S p) (hs : ∀ k ∈ S, k ∈ S') : InS S' p := fun q hq => hs _ (h q hq)
theorem InS.lay {S : List NestedKey} {p : Pl} (h : InS S p) (ok : PlOk p) {c : Cd} (hc : c ∈ canC p) : InS S (layC p c).1 := fun q hq => by
  have hl := left_lay ok hc
  refine h q ?_
  rw [← hl]
  exact List.mem_cons_of_mem _ (List.mem_flatMap.mpr ⟨c, hc, hq⟩)
def bndN : Nat → Nat
  | 0 => 1
  | n + 1 => 1 + (n + 1) * bndN n
theorem can_len (p : Pl) : (canC p).length ≤ leftP p := by
  obtain ⟨a, b, q, t, l⟩ := p
  cases t with
  | none => exact Nat.zero_le _
  | some w =>
    have h2 : (canC ⟨a, b, q, some w, l⟩).length ≤ (handOf a b w).length := List.length_filter_le _ _
    have h3 : (handOf a b w).length ≤ a.length + b.length := by cases w; show a.length ≤ _; omega; show b.length ≤ _; omega
    exact Nat.le_trans h2 h3
theorem flat_len {α β : Type} (f : α → List β) (k : Nat) : ∀ (l : List α), (∀ x ∈ l, (f x).length ≤ k) → (l.flatMap f).length ≤ l.length * k
  | [], _ => by simp
  | a :: l, h => by
    have h1 := h a List.mem_cons_self
    have h2 := flat_len f k l fun x hx => h x (List.mem_cons_of_mem _ hx)
    rw [List.flatMap_cons, List.length_append, List.length_cons, Nat.succ_mul]
    omega
theorem reach_len : ∀ (n : Nat) (p : Pl), PlOk p → leftP p = n → (reachN n p).length ≤ bndN n
  | 0, p, _, _ => Nat.le_refl _
  | n + 1, p, ok, hn => by
    have h1 := flat_len (fun c => reachN n (layC p c).1) (bndN n) (canC p) fun c hc => reach_len n _ (layC_ok ok hc).1 (by have := left_lay ok hc; omega)
    have h2 := Nat.mul_le_mul_right (bndN n) (can_len p)
    rw [hn] at h2
    show (List.flatMap _ _).length + 1 ≤ 1 + (n + 1) * bndN n
    omega
theorem keys_len {p : Pl} (ok : PlOk p) (h : leftP p ≤ 8) : (keysP p).length ≤ 109601 := by
  have h1 := reach_len (leftP p) p ok rfl
  unfold keysP
  rw [List.length_map]
  refine Nat.le_trans h1 ?_
  have : ∀ n, n ≤ 8 → bndN n ≤ 109601 := by decide
  exact this _ h
/-! ### memo -/
theorem memo_rt {vf : NestedKey → Int} {S : List NestedKey} {i : Nat} {mf : EF} {R : Ev → Option (Ev × D)} {ρ ρL : Ev} {v : D} {ks : List NestedKey} {o : Option Out} (h : R ρ = some (ρL, v)) (g : GoodM vf S i mf ρ ρL v ks) (k : some (.rt v) = o) : cMemo vf S i mf R ρ = o := by
  unfold cMemo
  rw [h]
  exact (if_pos ⟨ks, g⟩).trans k
theorem mb_cons {F : SF} {R : Ev → Option (Ev × D)} {ρ ρ1 : Ev} {o : Option (Ev × D)} (h : F ρ = some (.nx ρ1)) (k : R ρ1 = o) : mbCons F R ρ = o := by unfold mbCons; rw [h]; exact k
theorem mb_last {ef : EF} {ρ : Ev} {v : D} (h : ef ρ = some v) : mbLast ef ρ = some (ρ, v) := by unfold mbLast; rw [h]; rfl
theorem eMeth {n : Nat} {F : List D → Option D} {f0 : EF} {ra : LF} {ρ : Ev} {ds : List D} {o : Option D} (h0 : f0 ρ = some (memD (.int 1))) (h : ra ρ = some ds) (hl : ds.length = n) (k : F (memD (.int 1) :: ds) = o) : cMeth n F f0 ra ρ = o := by
  unfold cMeth
  rw [h0]
  show (cArgs n ra ρ).bind _ = _
  rw [eArgs h hl]
  exact k
theorem good_pl {S : List NestedKey} {i : Nat} {mf : EF} {ρ ρL : Ev} {p : Pl} (hS : S.length ≤ 1000000) (hp : InS S p) (h1 : mf ρ = some (memD (.int 0))) (h2 : mf ρL = some (memD (.int 0))) (h3 : cV i ρ = some (plD p)) (h4 : cV i ρL = some (plD p)) : GoodM vfC S i mf ρ ρL (.int (valP p)) (plKs p) := by
  have e := data_pl p
  unfold plK at e
  refine ⟨h1, h2, h3.trans (congrArg some e.symm), h4.trans (congrArg some e.symm), ?_, depth_pl p, hp.self, hS⟩
  exact congrArg PyData.int (vf_pl p).symm
/-! ### the names of the recursions: papers, what is one, the program's values, the law's: value, what is a paper, places, what is put there -/
noncomputable abbrev rcP := RC0
noncomputable abbrev rcI := RC1
noncomputable abbrev rcL := RC2
noncomputable abbrev rcQ := RC3
noncomputable abbrev rcW := RC4
noncomputable abbrev rcT := RC5
noncomputable abbrev rcV := RC6
/-! ### the program's values, and the law's -/
theorem wipe_len (ρ : Ev) : ∀ ns : List Nat, (wipeE ρ ns).length = ρ.length
  | [] => rfl
  | n :: ns => by
    show ((wipeE ρ ns).set n .no).length = _
    rw [List.length_set, wipe_len ρ ns]
theorem seq_eq {F F' G' : SF} {ρ ρ' : Ev} (h : F ρ = F' ρ') : cSeq F G' ρ = cSeq F' G' ρ' := by unfold cSeq; rw [h]
theorem had_shift (l : List (Bool × Int)) : hadD l = l.map fun x => PyData.tuple [.int (bI x.1), .int x.2] := rfl
theorem mul1_ok {b : Bool} {g : Int} : mulD (.int g) (.int (1 - 2 * bI b)) = some (.int (g * (1 - 2 * bI b))) := mul_int (.inr (by cases b <;> simp [bI] <;> decide))
theorem ldC_eq (l : List (Bool × Int)) : ldC l = (l.map fun x => x.2 * (1 - 2 * bI x.1)).sum := by
  unfold ldC ldW
  congr 1
  refine List.map_congr_left fun x _ => ?_
  cases x.1 <;> rfl
theorem lead_ok (l : List (Bool × Int)) (hl : l.length ≤ 1000) (who : Bool) : F_lead [.tuple (hadD l), .int (bI who)] = some (.int (ldW who l)) := by
  rw [F_lead_def]
  apply run_rt
  show B_lead [.va (.tuple (hadD l)), .va (.int (bI who)), .no, .no] = _
  unfold B_lead
  refine r_ret (d := .int (ldW who l)) ?_ rfl
  refine sum_list (ns := l.map fun x => x.2 * (1 - 2 * (if x.1 = who then 0 else 1))) ?_
  refine (eLcA (l := l) (enc := fun x => .tuple [.int (bI x.1), .int x.2]) (out := fun x => PyData.int (x.2 * (1 - 2 * (if x.1 = who then 0 else 1)))) (eItT rfl) (by omega) fun x _ => ⟨_, rfl, ?_⟩).trans ?_
  rotate_left
  · rw [List.map_map]; rfl
  obtain ⟨b, g⟩ := x
  refine e2 (d := .int g) (e := .int (1 - 2 * (if b = who then 0 else 1))) rfl (e2 (d := .int 1) (e := .int (2 * (if b = who then 0 else 1))) rfl (e2 (d := .int 2) (e := .int (if b = who then 0 else 1)) rfl (eC (ds := [.bool (!decide (bI b = bI who))]) (eCons (e2 rfl rfl (ne_int _ _)) rfl) ?_) ?_) rfl) ?_
  · cases b <;> cases who <;> rfl
  · cases b <;> cases who <;> rfl
  · exact mul_int (.inr (by cases b <;> cases who <;> decide))
theorem had_len (p : Pl) (c : Cd) : (layC p c).2.length ≤ 2 := by
  obtain ⟨a, b, q, t, l⟩ := p
  cases t with
  | none => exact Nat.zero_le _
  | some w =>
    show (Prod.snd (ite _ _ _) : List (Bool × Int)).length ≤ 2
    have h : (if 0 < gainC (q ++ [c]) then [(w, gainC (q ++ [c]))] else []).length ≤ 1 := by split <;> simp
    split
    · exact Nat.le_trans h (by decide)
    · split
      · exact Nat.le_trans h (by decide)
      · show (ite _ _ _ : List (Bool × Int)).length ≤ 2
        split
        · rw [List.length_append]; simp; omega
        · exact Nat.le_trans h (by decide)
theorem isn_pl (t : Option Bool) : isD (whD t) .none = some (.bool (decide (t = none))) := by cases t <;> rfl
theorem ix2_pl (p : Pl) : ixD (plD p) (.int 2) = some (whD p.turn) := rfl
theorem of_card_of {S : List NestedKey} {n : Nat} {p : Pl} (ok : PlOk p) {c : Cd} (hc : c ∈ canC p) (hrec : rcV vfC S n 0 [memD (.int 1), plD (layC p c).1] = some (.int (valP (layC p c).1))) : rcV vfC S (n + 1) 1 [memD (.int 1), plD p, cdD c] = some (.int (cvC p c)) := by
  show runF 5 (B_Values_of_card vfC S (rcV vfC S n 0) (rcV vfC S n 1)) _ = _
  apply run_rt
  show B_Values_of_card vfC S (rcV vfC S n 0) (rcV vfC S n 1) [.va (memD (.int 1)), .va (plD p), .va (cdD c), .no, .no] = _
  unfold B_Values_of_card
  refine s_asg (ρ1 := [.va (memD (.int 1)), .va (plD p), .va (cdD c), .va (plD (layC p c).1), .va (.tuple (hadD (layC p c).2))]) (eC (ds := [plD p, cdD c]) (eArgs (eCons rfl (eCons rfl rfl)) rfl) (lay_ok ok hc)) rfl ?_
  refine r_ret (d := .int (cvC p c)) (e2 (eC (ds := [.tuple (hadD (layC p c).2), .int (bI false)]) (eArgs (eCons rfl (eCons rfl rfl)) rfl) (lead_ok _ (Nat.le_trans (had_len p c) (by decide)) false)) (eMeth (ds := [plD (layC p c).1]) rfl (eCons rfl rfl) rfl hrec) rfl) rfl
theorem of_play_ok {S : List NestedKey} (hS : S.length ≤ 1000000) : ∀ (n : Nat) (p : Pl), PlOk p → InS S p → 2 * leftP p < n → rcV vfC S n 0 [memD (.int 1), plD p] = some (.int (valP p))
  | 0, p, _, _, h => absurd h (Nat.not_lt_zero _)
  | n + 1, p, ok, hp, hn => by
    have hlen := ok.len
    show runF 4 (B_Values_of_play vfC S (rcV vfC S n 0) (rcV vfC S n 1)) _ = _
    apply run_rt
    show B_Values_of_play vfC S (rcV vfC S n 0) (rcV vfC S n 1) [.va (memD (.int 1)), .va (plD p), .no, .no] = _
    unfold B_Values_of_play
    have ht : ∀ x2 x3 : Sl, cT1 asB (c2 isD (c2 ixD (cV 1) (cC (.int 2))) (cC .none)) [.va (memD (.int 1)), .va (plD p), x2, x3] = some (decide (p.turn = none)) := fun _ _ => eT (e2 (e2 rfl rfl (ix2_pl p)) rfl (isn_pl _)) rfl
    cases hw : p.turn with
    | none => rw [valP_none hw]; exact s_ifT ((ht _ _).trans (congrArg some (decide_eq_true hw))) (s_ret rfl rfl)
    | some w =>
      have hne := ok.cn w hw
      have hrec : ∀ c ∈ canC p, rcV vfC S n 1 [memD (.int 1), plD p, cdD c] = some (.int (cvC p c)) := fun c hc => by
        have h1 := left_lay ok hc
        match n, hn with
        | 0, hn => exact absurd hn (by omega)
        | m + 1, hn => exact of_card_of ok hc (of_play_ok hS m _ (layC_ok ok hc).1 (hp.lay ok hc) (by omega))
      refine s_ifF ((ht _ _).trans (congrArg some (decide_eq_false (by rw [hw]; exact nofun)))) (s_next ?_)
      refine memo_rt (v := .int (valP p)) (ρL := [.va (memD (.int 1)), .va (plD p), .va (.list (((canC p).map (cvC p)).map PyData.int)), .no]) ?_ (good_pl hS hp rfl rfl rfl rfl) rfl
      refine mb_cons (set_nx (d := .list (((canC p).map (cvC p)).map PyData.int)) ?_) ?_
      · rw [List.map_map]
        exact eLcA (l := canC p) (enc := cdD) (out := fun c => PyData.int (cvC p c)) (eItT (eC (ds := [plD p]) (eArgs (eCons rfl rfl) rfl) (can_ok (p := p) (by omega)))) (by have := can_len p; unfold leftP at this; simp only [List.length_append] at hlen; omega) fun c hc => ⟨[.va (memD (.int 1)), .va (plD p), .no, .va (cdD c)], rfl, eMeth (ds := [plD p, cdD c]) rfl (eCons rfl (eCons rfl rfl)) rfl (hrec c hc)⟩
      refine mb_last ?_
      have hne' : (canC p).map (cvC p) ≠ [] := by simpa using hne
      rw [valP_some ok hw]
      refine e2 (d := .list [.int (pickI false ((canC p).map (cvC p))), .int (pickI true ((canC p).map (cvC p)))]) (e := .int (bI w)) (eL (eChk (eCons (eC (eCons rfl rfl) (maxD_pick hne')) (eCons (eC (eCons rfl rfl) (minD_pick hne')) rfl)) (by simp))) (e2 rfl rfl (by rw [ix2_pl, hw]; rfl)) (pick_ix _ w)
theorem of_card_ok {S : List NestedKey} (hS : S.length ≤ 1000000) {n : Nat} {p : Pl} (ok : PlOk p) (hp : InS S p) {c : Cd} (hc : c ∈ canC p) (hn : 2 * leftP p ≤ n) : rcV vfC S n 1 [memD (.int 1), plD p, cdD c] = some (.int (cvC p c)) := by
  have h1 := left_lay ok hc
  match n, hn with
  | 0, hn => exact absurd hn (by omega)
  | m + 1, hn => exact of_card_of ok hc (of_play_ok hS m _ (layC_ok ok hc).1 (hp.lay ok hc) (by omega))
noncomputable def bestC (p : Pl) : Option Cd := (canC p).find? fun c => decide (cvC p c = valP p)
def optD : Option Cd → D
  | none => .none
  | some c => cdD c
theorem bestC_some {p : Pl} (ok : PlOk p) {w : Bool} (hw : p.turn = some w) : ∃ c, bestC p = some c ∧ c ∈ canC p ∧ cvC p c = valP p := by
  have hne := ok.cn w hw
  have hm := pick_mem (w := w) (l := (canC p).map (cvC p)) (by simpa using hne)
  rw [← valP_some ok hw] at hm
  obtain ⟨c, hc, e⟩ := List.mem_map.mp hm
  cases h : bestC p with
  | none => exact absurd (decide_eq_true e) (List.find?_eq_none.mp h c hc)
  | some b => exact ⟨b, rfl, List.mem_of_find?_eq_some h, of_decide_eq_true (List.find?_some (p := fun c => decide (cvC p c = valP p)) h)⟩
theorem bestC_none {p : Pl} (h : p.turn = none) : bestC p = none := by
  unfold bestC canC
  rw [h]; rfl
/-! ### the law's value -/
/-- the law's sum of what is had -/
theorem law_ld_ok {ρ : Ev} {j a b : Nat} {l : List (Bool × Int)} (hl : l.length ≤ 1000) (h : ρ[j]? = some (.va (.list (hadD l)))) (ha : a < ρ.length) (hb : b < ρ.length) (hab : a ≠ b) :
    cCall sumD (cCons (cL (cLc (cIt (cV j)) [a, b] (gT 2 (gC (gV a) (gC (gV b) gN))) cYes (c2 mulD (cV b) (c2 subD (cC (.int 1)) (c2 mulD (cC (.int 2)) (cV a)))))) cNil) ρ = some (.int (ldC l)) := by
  rw [ldC_eq]
  refine sum_list ?_
  refine Eq.trans (b := some (PyData.list (l.map fun x => PyData.int (x.2 * (1 - 2 * bI x.1))))) ?_ (by rw [List.map_map]; rfl)
  have hv : cV j ρ = some (.list (hadD l)) := by unfold cV; rw [h]
  refine eLcA (g := gT 2 (gC (gV a) (gC (gV b) gN))) (vs := [a, b]) (l := l) (enc := fun x => .tuple [.int (bI x.1), .int x.2]) (out := fun x => PyData.int (x.2 * (1 - 2 * bI x.1))) (eIt hv) (by omega) fun x _ => ⟨((wipeE ρ [a, b]).set a (.va (.int (bI x.1)))).set b (.va (.int x.2)), rfl, ?_⟩
  have la := wipe_len ρ
  have h1 : cV a (((wipeE ρ [a, b]).set a (.va (.int (bI x.1)))).set b (.va (.int x.2))) = some (.int (bI x.1)) := by
    unfold cV; rw [List.getElem?_set_ne (Ne.symm hab), List.getElem?_set_self (by rw [la]; exact ha)]
  have h2 : cV b (((wipeE ρ [a, b]).set a (.va (.int (bI x.1)))).set b (.va (.int x.2))) = some (.int x.2) := by
    unfold cV; rw [List.getElem?_set_self (by rw [List.length_set, la]; exact hb)]
  exact e2 h2 (e2 rfl (e2 rfl h1 (mul_int (.inl (by decide)))) rfl) mul1_ok
/-- the values of the cards, as the law tells them one by one -/
theorem law_some_loop {S : List NestedKey} {n : Nat} {p : Pl} (ok : PlOk p) (hrec : ∀ c ∈ canC p, rcL vfC S n 0 [plD (layC p c).1, memD (.int 0)] = some (.int (valP (layC p c).1))) : ∀ (l : List Cd) (acc : List Int) (x3 x4 x5 x6 x7 : Sl), (∀ c ∈ l, c ∈ canC p) → acc.length + l.length ≤ 1000 →
    ∃ y3 y4 y5 y6 y7 : Sl, forL (gV 3) (cSeq (cAsg (cCall F_law_lay (cArgs 2 (cCons (cV 0) (cCons (cV 3) cNil)))) (gT 2 (gC (gV 4) (gC (gV 5) gN))))
  (cApp 2 (c2 addD (cCall sumD (cCons (cL (cLc (cIt (cV 5)) [6, 7] (gT 2 (gC (gV 6) (gC (gV 7) gN))) cYes (c2 mulD (cV 7) (c2 subD (cC (.int 1)) (c2 mulD (cC (.int 2)) (cV 6)))))) cNil)) (cCall (rcL vfC S n 0) (cArgs 2 (cCons (cV 4) (cCons (cV 1) cNil))))))) (l.map cdD) [.va (plD p), .va (memD (.int 0)), .ow (acc.map PyData.int), x3, x4, x5, x6, x7]
      = some (.nx [.va (plD p), .va (memD (.int 0)), .ow ((acc ++ l.map (cvC p)).map PyData.int), y3, y4, y5, y6, y7])
  | [], acc, x3, x4, x5, x6, x7, _, _ => ⟨x3, x4, x5, x6, x7, by rw [show acc ++ List.map (cvC p) [] = acc from List.append_nil _]; rfl⟩
  | c :: l, acc, x3, x4, x5, x6, x7, hm, hl => by
    have hc := hm c List.mem_cons_self
    rw [List.length_cons] at hl
    obtain ⟨y3, y4, y5, y6, y7, h⟩ := law_some_loop ok hrec l (acc ++ [cvC p c]) (.va (cdD c)) (.va (plD (layC p c).1)) (.va (.list (hadD (layC p c).2))) x6 x7 (fun c' h => hm c' (List.mem_cons_of_mem _ h)) (by rw [List.length_append]; simp; omega)
    refine ⟨y3, y4, y5, y6, y7, ?_⟩
    rw [show acc ++ (c :: l).map (cvC p) = acc ++ [cvC p c] ++ l.map (cvC p) by rw [List.map_cons, List.append_assoc]; rfl, ← h, List.map_cons]
    refine forL_cons (ρ1 := [.va (plD p), .va (memD (.int 0)), .ow (acc.map PyData.int), .va (cdD c), x4, x5, x6, x7]) rfl ?_
    refine s_asg (ρ1 := [.va (plD p), .va (memD (.int 0)), .ow (acc.map PyData.int), .va (cdD c), .va (plD (layC p c).1), .va (.list (hadD (layC p c).2)), x6, x7]) (eC (ds := [plD p, cdD c]) (eArgs (eCons rfl (eCons rfl rfl)) rfl) (law_lay_ok ok hc)) rfl ?_
    refine (app_nx (ds := acc.map PyData.int) (d := .int (cvC p c)) rfl ?_ (by rw [List.length_map]; exact lim_of (by omega))).trans ?_
    · exact e2 (law_ld_ok (l := (layC p c).2) (Nat.le_trans (had_len p c) (by decide)) rfl (by simp) (by simp) (by decide)) (eC (ds := [plD (layC p c).1, memD (.int 0)]) (eArgs (eCons rfl (eCons rfl rfl)) rfl) (hrec c hc)) rfl
    · rw [List.map_append]; rfl
theorem law_value_ok {S : List NestedKey} (hS : S.length ≤ 1000000) : ∀ (n : Nat) (p : Pl), PlOk p → InS S p → leftP p < n → rcL vfC S n 0 [plD p, memD (.int 0)] = some (.int (valP p))
  | 0, p, _, _, h => absurd h (Nat.not_lt_zero _)
  | n + 1, p, ok, hp, hn => by
    have hlen := ok.len
    show runF 8 (B_law_value vfC S (rcL vfC S n 0)) _ = _
    apply run_rt
    show B_law_value vfC S (rcL vfC S n 0) [.va (plD p), .va (memD (.int 0)), .no, .no, .no, .no, .no, .no] = _
    unfold B_law_value
    have ht : ∀ x2 x3 x4 x5 x6 x7 : Sl, cT1 asB (c2 isD (c2 ixD (cV 0) (cC (.int 2))) (cC .none)) [.va (plD p), .va (memD (.int 0)), x2, x3, x4, x5, x6, x7] = some (decide (p.turn = none)) := fun _ _ _ _ _ _ => eT (e2 (e2 rfl rfl (ix2_pl p)) rfl (isn_pl _)) rfl
    cases hw : p.turn with
    | none => rw [valP_none hw]; exact s_ifT ((ht _ _ _ _ _ _).trans (congrArg some (decide_eq_true hw))) (s_ret rfl rfl)
    | some w =>
      have hne := ok.cn w hw
      have hrec : ∀ c ∈ canC p, rcL vfC S n 0 [plD (layC p c).1, memD (.int 0)] = some (.int (valP (layC p c).1)) := fun c hc => law_value_ok hS n _ (layC_ok ok hc).1 (hp.lay ok hc) (by have := left_lay ok hc; omega)
      obtain ⟨y3, y4, y5, y6, y7, hloop⟩ := law_some_loop ok hrec (canC p) [] .no .no .no .no .no (fun _ h => h) (by have := can_len p; unfold leftP at this; simp only [List.length_append] at hlen; simp; omega)
      refine s_ifF ((ht _ _ _ _ _ _).trans (congrArg some (decide_eq_false (by rw [hw]; exact nofun)))) (s_next ?_)
      refine memo_rt (v := .int (valP p)) (ρL := [.va (plD p), .va (memD (.int 0)), .va (.list (((canC p).map (cvC p)).map PyData.int)), y3, y4, y5, y6, y7]) ?_ (good_pl hS hp rfl rfl rfl rfl) rfl
      refine mb_cons (own_nx (ds := []) (eChk rfl (by simp))) ?_
      refine mb_cons ((for_eq (eIt (eC (ds := [plD p]) (eArgs (eCons rfl rfl) rfl) (law_can_ok (p := p) (by omega))))).trans hloop) ?_
      refine mb_cons (ρ1 := [.va (plD p), .va (memD (.int 0)), .va (.list (((canC p).map (cvC p)).map PyData.int)), y3, y4, y5, y6, y7]) rfl ?_
      refine mb_last ?_
      have hne' : (canC p).map (cvC p) ≠ [] := by simpa using hne
      rw [valP_some ok hw]
      refine e2 (d := .list [.int (pickI false ((canC p).map (cvC p))), .int (pickI true ((canC p).map (cvC p)))]) (e := .int (bI w)) (eL (eChk (eCons (eC (eCons rfl rfl) (maxD_pick hne')) (eCons (eC (eCons rfl rfl) (minD_pick hne')) rfl)) (by simp))) (e2 rfl rfl (by rw [ix2_pl, hw]; rfl)) (pick_ix _ w)
/-! ### the law's play -/
theorem shaped_pl2 (p : Pl) : SeqAt.shaped (plD p) = true := shaped_pl p
abbrev playB : SF := (cIfS (cT1 asB (c2 neD (cCall F_law_can (cArgs 1 (cCons (cV 3) cNil))) (cL (chk 1000 cNil)))) (cAsg (c2 ixD (cCall F_law_lay (cArgs 2 (cCons (cV 3) (cCons (c2 ixD (cCall F_law_can (cArgs 1 (cCons (cV 3) cNil))) (c2 modD (c2 fdivD (cV 0) (cC (.int 256))) (cCall lenD (cCons (cCall F_law_can (cArgs 1 (cCons (cV 3) cNil))) cNil)))) cNil)))) (cC (.int 0))) (gV 3)) cNext)
theorem neN_cdL (l : List Cd) : neD (cdL l) (.list []) = some (.bool (!decide (l = []))) := by
  unfold neD
  rw [if_pos ⟨shaped_cds l, rfl⟩]
  cases l with
  | nil => rfl
  | cons a l => simp [cdL, PyData.eqv, PyData.eqvAll]
theorem play_loop {n : Int} (n0 : 0 ≤ n) {d1 d2 : Sl} : ∀ (ds : List D) (p : Pl) (x4 : Sl), PlOk p → ∃ p' y4, forL (gV 4) playB ds [.va (.int n), d1, d2, .va (plD p), x4] = some (.nx [.va (.int n), d1, d2, .va (plD p'), y4]) ∧ PlOk p' ∧ leftP p' ≤ leftP p
  | [], p, x4, ok => ⟨p, x4, rfl, ok, Nat.le_refl _⟩
  | d :: ds, p, x4, ok => by
    have hlen := ok.len
    have hlcan := law_can_ok (p := p) (by omega)
    have ht : cT1 asB (c2 neD (cCall F_law_can (cArgs 1 (cCons (cV 3) cNil))) (cL (chk 1000 cNil))) [.va (.int n), d1, d2, .va (plD p), .va d] = some (!decide (canC p = [])) := eT (e2 (eC (ds := [plD p]) (eArgs (eCons rfl rfl) rfl) hlcan) (eL (eChk rfl (by simp))) (neN_cdL _)) rfl
    by_cases hend : canC p = []
    · obtain ⟨p', y4, h, ok', hl⟩ := play_loop n0 (d1 := d1) (d2 := d2) ds p (.va d) ok
      rw [decide_eq_true hend] at ht
      exact ⟨p', y4, (forL_cons (ρ1 := [.va (.int n), d1, d2, .va (plD p), .va d]) rfl (i_F ht rfl)).trans h, ok', hl⟩
    · obtain ⟨c, hc, j, hj, hcj⟩ := drawn_one hend (by have := can_len p; unfold leftP at this; simp only [List.length_append] at hlen; omega) (m := n / 256) (by omega)
      obtain ⟨ok1, hdec⟩ := layC_ok ok hc
      obtain ⟨p', y4, h, ok', hl⟩ := play_loop n0 (d1 := d1) (d2 := d2) ds (layC p c).1 (.va d) ok1
      have hl1 := left_lay ok hc
      rw [decide_eq_false hend] at ht
      refine ⟨p', y4, (forL_cons (ρ1 := [.va (.int n), d1, d2, .va (plD p), .va d]) rfl (i_T ht (set_nx (d := plD (layC p c).1) ?_))).trans h, ok', by omega⟩
      refine e2 (d := .tuple [plD (layC p c).1, .list (hadD (layC p c).2)]) (e := .int 0) (eC (ds := [plD p, cdD c]) (eArgs (eCons rfl (eCons ?_ rfl)) rfl) (law_lay_ok ok hc)) rfl rfl
      refine e2 (d := cdL (canC p)) (e := .int (j : Nat)) (eC (ds := [plD p]) (eArgs (eCons rfl rfl) rfl) hlcan) (e2 (d := .int (n / 256)) (e := .int ((canC p).length : Nat)) (e2 rfl rfl (fdiv_int (by decide))) (eC (eCons (eC (ds := [plD p]) (eArgs (eCons rfl rfl) rfl) hlcan) rfl) (len_cdL _)) ?_) (L2.atI_nat (by rw [List.getElem?_map, hcj]; rfl))
      rw [← hj]
      exact mod_int (by have := List.length_pos_iff.mpr hend; omega)
theorem law_play_ok {n m : Int} (n0 : 0 ≤ n) (m0 : 0 ≤ m) (m1 : m < 2147483629) : ∃ p, F_law_play [.int n, .int m] = some (plD p) ∧ PlOk p ∧ leftP p ≤ 6 := by
  obtain ⟨cs, hdl, hd, hc, hcl⟩ := deal_ok m0 m1 (many := 8) (by decide)
  have hmap : (cs.map cdD).length = cs.length := List.length_map _
  obtain ⟨i, ei⟩ : ∃ i : Nat, n % 4 = (i : Int) := ⟨(n % 4).toNat, by omega⟩
  obtain ⟨k, ek⟩ : ∃ k : Nat, n / 4 % 4 = (k : Int) := ⟨(n / 4 % 4).toNat, by omega⟩
  have hi : i ≤ 3 := by omega
  have hk : k ≤ 3 := by omega
  obtain ⟨w, ew⟩ := bI_of (t := n / 16 % 2) (by omega) (by omega)
  obtain ⟨a, ea⟩ : ∃ a, a = cs.take i := ⟨_, rfl⟩
  obtain ⟨b, eb⟩ : ∃ b, b = (cs.drop 4).take k := ⟨_, rfl⟩
  have nd : (a ++ b).Nodup := by rw [ea, eb]; exact nodup_two hd i k (by omega)
  have sub : ∀ c ∈ a ++ b, CdOk c := fun c hc' => by
    rcases List.mem_append.mp hc' with z | z
    · rw [ea] at z; exact hc c (List.mem_of_mem_take z)
    · rw [eb] at z; exact hc c (List.mem_of_mem_drop (List.mem_of_mem_take z))
  have la : a.length ≤ 3 := by rw [ea, List.length_take]; omega
  have lb : b.length ≤ 3 := by rw [eb, List.length_take]; omega
  have hlb := law_begin_ok a b w
  have ok := beginC_ok w nd sub (by rw [List.length_append]; omega)
  have q1 : (beginC a b w).h0.length = a.length := (cdsort_perm a).length_eq
  have q2 : (beginC a b w).h1.length = b.length := (cdsort_perm b).length_eq
  obtain ⟨p', y4, h, ok', hl⟩ := play_loop n0 (d1 := .va (.int m)) (d2 := .va (cdT cs)) (rgL 0 (n / 32 % 3).toNat) (beginC a b w) .no ok
  refine ⟨p', ?_, ok', by unfold leftP at hl ⊢; omega⟩
  rw [F_law_play_def]
  apply run_rt
  show B_law_play [.va (.int n), .va (.int m), .no, .no, .no] = _
  unfold B_law_play
  refine s_set (eC (ds := [.int m, .int 8]) (eArgs (eCons rfl (eCons rfl rfl)) rfl) hdl) ?_
  refine s_set (d := plD (beginC a b w)) (eC (ds := [cdT a, cdT b, .int (bI w)]) (eArgs (eCons ?_ (eCons ?_ (eCons ?_ rfl))) rfl) hlb) ?_
  · refine eSl (d := cdT cs) rfl rfl (ePt (e2 (d := .int n) rfl rfl (mod_int (by decide)))) ?_
    rw [ei]
    show some (PyData.tuple (cutL (cs.map cdD) none (some (i : Int)))) = _
    rw [cut_take _ _ (by omega) (by omega), Int.toNat_natCast, ← List.map_take, ea]; rfl
  · refine eSl (d := cdT cs) rfl (ePt rfl) (ePt (e2 (d := .int 4) rfl (e2 (e2 (d := .int n) rfl rfl (fdiv_int (by decide))) rfl (mod_int (by decide))) rfl)) ?_
    rw [ek]
    show some (PyData.tuple (cutL (cs.map cdD) (some ((4 : Nat) : Int)) (some (4 + (k : Int))))) = _
    rw [show (4 + (k : Int)) = ((4 + k : Nat) : Int) by omega, cut_mid _ 4 (4 + k) (by omega) (by omega), ← List.map_drop, ← List.map_take, show 4 + k - 4 = k by omega, eb]; rfl
  · rw [← ew]
    exact e2 (e2 (d := .int n) rfl rfl (fdiv_int (by decide))) rfl (mod_int (by decide))
  refine s_for (ds := rgL 0 (n / 32 % 3).toNat) (eRg1 (n := n / 32 % 3) (e2 (e2 (d := .int n) rfl rfl (fdiv_int (by decide))) rfl (mod_int (by decide))) (by omega)) h ?_
  exact r_ret rfl rfl
/-! ### papers: things, and what is a paper -/
def sgI (who : Bool) : Int := 1 - 2 * bI who
theorem ldW_sg (who : Bool) (l : List (Bool × Int)) : ldW who l = sgI who * ldC l := by
  unfold ldC ldW
  induction l with
  | nil => cases who <;> rfl
  | cons x l ih =>
    rw [List.map_cons, List.map_cons, List.sum_cons, List.sum_cons, ih, Int.mul_add]
    congr 1
    obtain ⟨b, g⟩ := x
    cases b <;> cases who <;> simp [sgI, bI]
def ThD (n : Nat) (d : D) : Prop := PyData.canLay0 d = true ∧ PyData.depth d ≤ n
theorem ThD.mono {m n : Nat} {d : D} (h : ThD m d) (l : m ≤ n) : ThD n d := ⟨h.1, Nat.le_trans h.2 l⟩
theorem thAll {n : Nat} {ds : List D} : (PyData.canLayAll0 ds = true ∧ PyData.depthAll ds ≤ n) ↔ ∀ d ∈ ds, ThD n d := by
  induction ds with
  | nil => exact ⟨fun _ d hd => (nomatch hd), fun _ => ⟨rfl, by simp [PyData.depthAll]⟩⟩
  | cons a l ih =>
    constructor
    · intro ⟨h1, h2⟩ d hd
      simp only [PyData.canLayAll0, Bool.and_eq_true] at h1
      simp only [PyData.depthAll] at h2
      rcases List.mem_cons.mp hd with rfl | hd
      · exact ⟨h1.1, by omega⟩
      · exact ih.mp ⟨h1.2, by omega⟩ d hd
    · intro h
      obtain ⟨i1, i2⟩ := ih.mpr fun d hd => h d (List.mem_cons_of_mem _ hd)
      obtain ⟨a1, a2⟩ := h a List.mem_cons_self
      refine ⟨?_, ?_⟩
      · simp only [PyData.canLayAll0, Bool.and_eq_true]; exact ⟨a1, i1⟩
      · simp only [PyData.depthAll]; omega
theorem thT {n : Nat} {ds : List D} : ThD (n + 1) (.tuple ds) ↔ ∀ d ∈ ds, ThD n d := by
  rw [← thAll]
  unfold ThD
  simp only [PyData.canLay0, PyData.depth]
  constructor
  · intro ⟨h1, h2⟩; exact ⟨h1, by omega⟩
  · intro ⟨h1, h2⟩; exact ⟨h1, by omega⟩
theorem thL {n : Nat} {ds : List D} : ThD (n + 1) (.list ds) ↔ ∀ d ∈ ds, ThD n d := by
  rw [← thAll]
  unfold ThD
  simp only [PyData.canLay0, PyData.depth]
  constructor
  · intro ⟨h1, h2⟩; exact ⟨h1, by omega⟩
  · intro ⟨h1, h2⟩; exact ⟨h1, by omega⟩
theorem ThD.shaped {d : D} (h : ThD 60 d) : SeqAt.shaped d = true := by
  show (PyData.canLay0 d && decide (PyData.depth d ≤ 64)) = true
  rw [h.1, decide_eq_true (Nat.le_trans h.2 (by decide))]; rfl
theorem ThD.nd {n : Nat} {d : D} (h : ThD n d) : nd d = true := by
  cases d with
  | dict _ => exact absurd h.1 (by simp [PyData.canLay0])
  | _ => rfl
theorem ThD.sub {n : Nat} {ds : List D} (h : ThD n (.tuple ds)) : ∀ d ∈ ds, ThD n d := (thT.mp (h.mono (Nat.le_succ n)))
theorem ThD.nd2 {n : Nat} {d : D} (h : ThD n d) : nd2 d = true := by
  cases d with
  | dict _ => exact absurd h.1 (by simp [PyData.canLay0])
  | tuple ds => exact List.all_eq_true.mpr fun x hx => (h.sub x hx).nd
  | _ => rfl
theorem th_cd (c : Cd) : ThD 3 (cdD c) := ⟨rfl, by simp [cdD, PyData.depth, PyData.depthAll]⟩
/-- a pair of a card and what stands behind it -/
def headC : D → Option (Cd × D)
  | .tuple [.tuple [.int a, .int b], y] => some ((a, b), y)
  | _ => none
theorem headC_cd (c : Cd) (y : D) : headC (.tuple [cdD c, y]) = some (c, y) := rfl
theorem headC_some {d : D} {c : Cd} {y : D} (h : headC d = some (c, y)) : d = .tuple [cdD c, y] := by
  unfold headC at h
  split at h
  · cases h; rfl
  · cases h
noncomputable def isQ (f : Pl → Int → D → Bool) (who : Bool) (p : Pl) (least : Int) (c : Cd) (d : D) : Bool := match headC d with
  | some (x, y) => decide (x = c) && f (layC p c).1 (least - ldW who (layC p c).2) y
  | none => false
noncomputable def isP (who : Bool) : Nat → Pl → Int → D → Bool
  | 0, _, _, _ => false
  | n + 1, p, least, d => match d with
    | .tuple ds => (match p.turn with
      | none => decide (ds.length = 0) && decide (least ≤ 0)
      | some w => if w = who then (canC p).any fun c => isQ (isP who n) who p least c (.tuple ds) else decide (ds.length = (canC p).length) && ((canC p).zip ds).all fun x => isQ (isP who n) who p least x.1 x.2)
    | _ => false
theorem isP_none {who : Bool} {n : Nat} {p : Pl} {least : Int} {ds : List D} (h : p.turn = none) : isP who (n + 1) p least (.tuple ds) = (decide (ds.length = 0) && decide (least ≤ 0)) := by
  unfold isP; rw [h]
theorem isP_own {who : Bool} {n : Nat} {p : Pl} {least : Int} {ds : List D} (h : p.turn = some who) : isP who (n + 1) p least (.tuple ds) = (canC p).any fun c => isQ (isP who n) who p least c (.tuple ds) := by
  rw [isP, h]; exact if_pos rfl
theorem isP_oth {who w : Bool} {n : Nat} {p : Pl} {least : Int} {ds : List D} (h : p.turn = some w) (hw : w ≠ who) : isP who (n + 1) p least (.tuple ds) = (decide (ds.length = (canC p).length) && ((canC p).zip ds).all fun x => isQ (isP who n) who p least x.1 x.2) := by
  rw [isP, h]; exact if_neg hw
theorem isP_not {who : Bool} {n : Nat} {p : Pl} {least : Int} {d : D} (h : isTup d = false) : isP who n p least d = false := by
  cases n with
  | zero => rfl
  | succ n => cases d <;> first | rfl | (cases h; done)
/-! values and whose they are -/
theorem sg_cv (who : Bool) (p : Pl) (c : Cd) : sgI who * cvC p c = ldW who (layC p c).2 + sgI who * valP (layC p c).1 := by
  unfold cvC; rw [Int.mul_add, ldW_sg]
theorem val_own {p : Pl} (ok : PlOk p) {w : Bool} (hw : p.turn = some w) {c : Cd} (hc : c ∈ canC p) : sgI w * cvC p c ≤ sgI w * valP p := by
  rw [valP_some ok hw]
  have hm : cvC p c ∈ (canC p).map (cvC p) := List.mem_map.mpr ⟨c, hc, rfl⟩
  cases w with
  | false => have := pick_max hm; simp only [sgI, bI]; simp; omega
  | true => have := pick_min hm; simp only [sgI, bI]; simp; omega
theorem val_oth {p : Pl} (ok : PlOk p) {w who : Bool} (hw : p.turn = some w) (ne : w ≠ who) {c : Cd} (hc : c ∈ canC p) : sgI who * valP p ≤ sgI who * cvC p c := by
  rw [valP_some ok hw]
  have hm : cvC p c ∈ (canC p).map (cvC p) := List.mem_map.mpr ⟨c, hc, rfl⟩
  cases w with
  | false =>
    cases who with
    | false => exact absurd rfl ne
    | true => have := pick_max hm; simp only [sgI, bI]; simp; omega
  | true =>
    cases who with
    | true => exact absurd rfl ne
    | false => have := pick_min hm; simp only [sgI, bI]; simp; omega
theorem val_at {p : Pl} (ok : PlOk p) {w : Bool} (hw : p.turn = some w) : ∃ c, c ∈ canC p ∧ cvC p c = valP p := by
  obtain ⟨c, _, h1, h2⟩ := bestC_some ok hw
  exact ⟨c, h1, h2⟩
/-! a paper -/
noncomputable def papT (who : Bool) (p : Pl) (least : Int) (c : Cd) : Bool := decide (least - ldW who (layC p c).2 ≤ sgI who * valP (layC p c).1)
noncomputable def papD (who : Bool) : Nat → Pl → Int → D
  | 0, _, _ => .tuple []
  | n + 1, p, least => match p.turn with
    | none => .tuple []
    | some w => if w = who then
        match (canC p).find? (papT who p least) with
        | some c => .tuple [cdD c, papD who n (layC p c).1 (least - ldW who (layC p c).2)]
        | none => .tuple []
      else .tuple ((canC p).map fun c => .tuple [cdD c, papD who n (layC p c).1 (least - ldW who (layC p c).2)])
theorem papD_none {who : Bool} {n : Nat} {p : Pl} {least : Int} (h : p.turn = none) : papD who n p least = .tuple [] := by
  cases n with
  | zero => rfl
  | succ n => unfold papD; rw [h]
theorem papD_own {who : Bool} {n : Nat} {p : Pl} {least : Int} (h : p.turn = some who) : papD who (n + 1) p least = match (canC p).find? (papT who p least) with
    | some c => .tuple [cdD c, papD who n (layC p c).1 (least - ldW who (layC p c).2)]
    | none => .tuple [] := by
  rw [papD, h]; exact if_pos rfl
theorem papD_oth {who w : Bool} {n : Nat} {p : Pl} {least : Int} (h : p.turn = some w) (hw : w ≠ who) : papD who (n + 1) p least = .tuple ((canC p).map fun c => .tuple [cdD c, papD who n (layC p c).1 (least - ldW who (layC p c).2)]) := by
  rw [papD, h]; exact if_neg hw
theorem pap_th (who : Bool) : ∀ (n : Nat) (p : Pl) (least : Int), ThD (2 * n + 3) (papD who n p least)
  | 0, p, least => ⟨rfl, by simp [papD, PyData.depth, PyData.depthAll]⟩
  | n + 1, p, least => by
    have nil : ThD (2 * (n + 1) + 3) (.tuple []) := ⟨rfl, by simp [PyData.depth, PyData.depthAll]⟩
    have pr : ∀ c, ThD (2 * (n + 1) + 2) (.tuple [cdD c, papD who n (layC p c).1 (least - ldW who (layC p c).2)]) := fun c => thT.mpr fun d hd => by
      rcases List.mem_cons.mp hd with rfl | hd
      · exact (th_cd c).mono (by omega)
      · rw [List.mem_singleton.mp hd]; exact (pap_th who n _ _).mono (by omega)
    cases h : p.turn with
    | none => rw [papD_none h]; exact nil
    | some w =>
      by_cases z : w = who
      · subst z
        rw [papD_own h]
        split
        · exact (pr _).mono (by omega)
        · exact nil
      · rw [papD_oth h z]
        refine thT.mpr fun d hd => ?_
        obtain ⟨c, _, rfl⟩ := List.mem_map.mp hd
        exact pr c
theorem pap_is {who : Bool} : ∀ (n m : Nat) (p : Pl) (least : Int), PlOk p → leftP p < n → leftP p < m → least ≤ sgI who * valP p → isP who n p least (papD who m p least) = true
  | 0, _, p, least, _, h, _, _ => absurd h (Nat.not_lt_zero _)
  | _ + 1, 0, p, least, _, _, h, _ => absurd h (Nat.not_lt_zero _)
  | n + 1, m + 1, p, least, ok, hn, hm', hv => by
    cases h : p.turn with
    | none =>
      rw [papD_none h, isP_none h]
      rw [valP_none h] at hv
      simp only [Int.mul_zero] at hv
      simp [hv]
    | some w =>
      by_cases z : w = who
      · subst z
        rw [papD_own h]
        obtain ⟨c0, h0, e0⟩ := val_at ok h
        have t0 : papT w p least c0 = true := by
          refine decide_eq_true ?_
          have := sg_cv w p c0
          rw [e0] at this
          omega
        cases hf : (canC p).find? (papT w p least) with
        | none => exact absurd t0 (List.find?_eq_none.mp hf c0 h0)
        | some c =>
          have hc := List.mem_of_find?_eq_some hf
          have ht : least - ldW w (layC p c).2 ≤ sgI w * valP (layC p c).1 := of_decide_eq_true (List.find?_some (p := papT w p least) hf)
          have hl := left_lay ok hc
          have ih := pap_is n m (layC p c).1 _ (layC_ok ok hc).1 (by omega) (by omega) ht
          show isP w (n + 1) p least (.tuple _) = true
          rw [isP_own h]
          refine List.any_eq_true.mpr ⟨c, hc, ?_⟩
          unfold isQ
          rw [headC_cd]
          show (decide (c = c) && _) = true
          rw [decide_eq_true rfl, ih]; rfl
      · rw [papD_oth h z, isP_oth h z]
        have hall : ∀ l : List Cd, (∀ c ∈ l, c ∈ canC p) → ((l.zip (l.map fun c => PyData.tuple [cdD c, papD who m (layC p c).1 (least - ldW who (layC p c).2)])).all fun x => isQ (isP who n) who p least x.1 x.2) = true := fun l => by
          induction l with
          | nil => intro _; rfl
          | cons c l ih =>
            intro hm
            have hc := hm c List.mem_cons_self
            have hl := left_lay ok hc
            have hv' := val_oth ok h z hc
            have hs := sg_cv who p c
            have i1 := pap_is (who := who) n m (layC p c).1 (least - ldW who (layC p c).2) (layC_ok ok hc).1 (by omega) (by omega) (by omega)
            rw [List.map_cons, List.zip_cons_cons, List.all_cons, ih fun c' h' => hm c' (List.mem_cons_of_mem _ h')]
            show (isQ (isP who n) who p least c _ && true) = true
            unfold isQ
            rw [headC_cd]
            show (decide (c = c) && _ && true) = true
            rw [decide_eq_true rfl, i1]; rfl
        rw [hall (canC p) fun _ h => h, List.length_map, decide_eq_true rfl]; rfl
theorem pap_tup (who : Bool) (n : Nat) (p : Pl) (least : Int) : ∃ ds, papD who n p least = .tuple ds := by
  cases n with
  | zero => exact ⟨[], rfl⟩
  | succ n =>
    cases h : p.turn with
    | none => exact ⟨[], papD_none h⟩
    | some w =>
      by_cases z : w = who
      · subst z
        rw [papD_own h]
        split <;> exact ⟨_, rfl⟩
      · exact ⟨_, papD_oth h z⟩
theorem zip_at {α β : Type} : ∀ {l : List α} {m : List β}, m.length = l.length → ∀ {a : α}, a ∈ l → ∃ b, b ∈ m ∧ (a, b) ∈ l.zip m
  | [], _, _, _, h => nomatch h
  | _ :: _, [], e, _, _ => by simp at e
  | x :: l, y :: m, e, a, h => by
    rcases List.mem_cons.mp h with rfl | h
    · exact ⟨y, List.mem_cons_self, List.mem_cons_self⟩
    · obtain ⟨b, h1, h2⟩ := zip_at (l := l) (m := m) (by simpa using e) h
      exact ⟨b, List.mem_cons_of_mem _ h1, List.mem_cons_of_mem _ h2⟩
theorem isQ_some {f : Pl → Int → D → Bool} {who : Bool} {p : Pl} {least : Int} {c : Cd} {d : D} (h : isQ f who p least c d = true) : ∃ y, d = .tuple [cdD c, y] ∧ f (layC p c).1 (least - ldW who (layC p c).2) y = true := by
  unfold isQ at h
  split at h
  · rename_i x y e
    rw [Bool.and_eq_true] at h
    have := of_decide_eq_true h.1
    subst this
    exact ⟨y, headC_some e, h.2⟩
  · cases h
theorem isQ_of {f : Pl → Int → D → Bool} {who : Bool} {p : Pl} {least : Int} {c : Cd} {y : D} (h : f (layC p c).1 (least - ldW who (layC p c).2) y = true) : isQ f who p least c (.tuple [cdD c, y]) = true := by
  unfold isQ
  rw [headC_cd]
  show (decide (c = c) && _) = true
  rw [decide_eq_true rfl, h]; rfl
theorem is_sound {who : Bool} : ∀ (n : Nat) (p : Pl) (least : Int) (d : D), PlOk p → leftP p < n → isP who n p least d = true → least ≤ sgI who * valP p
  | 0, p, least, d, _, h, _ => absurd h (Nat.not_lt_zero _)
  | n + 1, p, least, d, ok, hn, h => by
    cases d with
    | tuple ds =>
      cases ht : p.turn with
      | none =>
        rw [isP_none ht, Bool.and_eq_true] at h
        rw [valP_none ht, Int.mul_zero]
        exact of_decide_eq_true h.2
      | some w =>
        have step : ∀ {c d'}, c ∈ canC p → isQ (isP who n) who p least c d' = true → least ≤ sgI who * cvC p c := fun {c d'} hc hq => by
          obtain ⟨y, _, hy⟩ := isQ_some hq
          have hl := left_lay ok hc
          have := is_sound n _ _ _ (layC_ok ok hc).1 (by omega) hy
          have := sg_cv who p c
          omega
        by_cases z : w = who
        · subst z
          rw [isP_own ht] at h
          obtain ⟨c, hc, hq⟩ := List.any_eq_true.mp h
          exact Int.le_trans (step hc hq) (val_own ok ht hc)
        · rw [isP_oth ht z, Bool.and_eq_true] at h
          obtain ⟨c, hc, e⟩ := val_at ok ht
          obtain ⟨b, _, hb⟩ := zip_at (of_decide_eq_true h.1) hc
          have := step hc (List.all_eq_true.mp h.2 _ hb)
          rw [e] at this; exact this
    | _ => rw [isP_not rfl] at h; cases h
theorem is_mono {who : Bool} : ∀ (n : Nat) (p : Pl) (least less : Int) (d : D), less ≤ least → isP who n p least d = true → isP who n p less d = true
  | 0, p, least, less, d, _, h => h
  | n + 1, p, least, less, d, hl, h => by
    cases d with
    | tuple ds =>
      have step : ∀ {c d'}, isQ (isP who n) who p least c d' = true → isQ (isP who n) who p less c d' = true := fun {c d'} hq => by
        obtain ⟨y, rfl, hy⟩ := isQ_some hq
        exact isQ_of (is_mono n _ _ _ _ (by omega) hy)
      cases ht : p.turn with
      | none =>
        rw [isP_none ht, Bool.and_eq_true] at h ⊢
        exact ⟨h.1, decide_eq_true (Int.le_trans hl (of_decide_eq_true h.2))⟩
      | some w =>
        by_cases z : w = who
        · subst z
          rw [isP_own ht] at h ⊢
          obtain ⟨c, hc, hq⟩ := List.any_eq_true.mp h
          exact List.any_eq_true.mpr ⟨c, hc, step hq⟩
        · rw [isP_oth ht z, Bool.and_eq_true] at h ⊢
          exact ⟨h.1, List.all_eq_true.mpr fun x hx => step (List.all_eq_true.mp h.2 x hx)⟩
    | _ => rw [isP_not rfl] at h; cases h
/-! ### the program's papers -/
theorem gets_ok {S : List NestedKey} (hS : S.length ≤ 1000000) {p : Pl} (ok : PlOk p) (hp : InS S p) (hl : leftP p ≤ 9) (who : Bool) : F_gets vfC S [memD (.int 1), plD p, .int (bI who)] = some (.int (sgI who * valP p)) := by
  rw [F_gets_def]
  apply run_rt
  show B_gets vfC S [.va (memD (.int 1)), .va (plD p), .va (.int (bI who))] = _
  unfold B_gets
  refine r_ret (d := .int (valP p * (1 - 2 * bI who))) (e2 (eMeth (ds := [plD p]) rfl (eCons rfl rfl) rfl (of_play_ok hS 20 p ok hp (by omega))) (d := .int (valP p)) (e := .int (1 - 2 * bI who)) (e2 rfl (e2 rfl rfl (mul_int (.inl (by decide)))) rfl) mul1_ok) ?_
  rw [Int.mul_comm]; rfl
theorem ne_who {t w : Bool} : neD (.int (bI t)) (.int (bI w)) = some (.bool (!decide (t = w))) := by
  rw [ne_int]
  cases t <;> cases w <;> rfl
theorem eq_who {t w : Bool} : eqD (.int (bI t)) (.int (bI w)) = some (.bool (decide (t = w))) := by
  rw [eq_int]
  cases t <;> cases w <;> rfl
noncomputable abbrev pfT (S : List NestedKey) (g0 : List D → Option D) : SF := (cIfS (cT1 asB (c2 neD (c2 ixD (cV 1) (cC (.int 2))) (cV 2))) (cApp 4 (cTup (cCons (cV 5) (cCons (cCall g0 (cArgs 4 (cCons (cV 0) (cCons (cV 6) (cCons (cV 2) (cCons (cV 8) cNil)))))) cNil)))) (cIfS (cT1 asB (c2 geD (cCall (F_gets vfC S) (cArgs 3 (cCons (cV 0) (cCons (cV 6) (cCons (cV 2) cNil))))) (cV 8))) (cRet (cTup (cCons (cV 5) (cCons (cCall g0 (cArgs 4 (cCons (cV 0) (cCons (cV 6) (cCons (cV 2) (cCons (cV 8) cNil)))))) cNil)))) cNext))
noncomputable abbrev pfB (S : List NestedKey) (g0 : List D → Option D) : SF := (cSeq (cAsg (cCall F_lay (cArgs 2 (cCons (cV 1) (cCons (cV 5) cNil)))) (gT 2 (gC (gV 6) (gC (gV 7) gN))))
  (cSeq (cAsg (c2 subD (cV 3) (cCall F_lead (cArgs 2 (cCons (cV 7) (cCons (cV 2) cNil))))) (gV 8))
  (pfT S g0)))
/-- what a card's turn begins with -/
theorem pf_begin {S : List NestedKey} {g0 : List D → Option D} {p : Pl} (ok : PlOk p) {who : Bool} {least : Int} {c : Cd} (hc : c ∈ canC p) {acc : List D} {x6 x7 x8 : Sl} {o : Option Out}
    (k : pfT S g0 [.va (memD (.int 1)), .va (plD p), .va (.int (bI who)), .va (.int least), .ow acc, .va (cdD c), .va (plD (layC p c).1), .va (.tuple (hadD (layC p c).2)), .va (.int (least - ldW who (layC p c).2))] = o) :
    pfB S g0 [.va (memD (.int 1)), .va (plD p), .va (.int (bI who)), .va (.int least), .ow acc, .va (cdD c), x6, x7, x8] = o := by
  refine s_asg (ρ1 := [.va (memD (.int 1)), .va (plD p), .va (.int (bI who)), .va (.int least), .ow acc, .va (cdD c), .va (plD (layC p c).1), .va (.tuple (hadD (layC p c).2)), x8]) (eC (ds := [plD p, cdD c]) (eArgs (eCons rfl (eCons rfl rfl)) rfl) (lay_ok ok hc)) rfl ?_
  exact s_set (d := .int (least - ldW who (layC p c).2)) (e2 rfl (eC (ds := [.tuple (hadD (layC p c).2), .int (bI who)]) (eArgs (eCons rfl (eCons rfl rfl)) rfl) (lead_ok _ (Nat.le_trans (had_len p c) (by decide)) who)) rfl) k
theorem paper_from_ok {S : List NestedKey} (hS : S.length ≤ 1000000) {who : Bool} : ∀ (n : Nat) (p : Pl) (least : Int), PlOk p → InS S p → leftP p < n → leftP p ≤ 9 → rcP vfC S n 0 [memD (.int 1), plD p, .int (bI who), .int least] = some (papD who n p least)
  | 0, p, _, _, _, h, _ => absurd h (Nat.not_lt_zero _)
  | n + 1, p, least, ok, hp, hn, hl9 => by
    have hlen := ok.len
    have hcl : (canC p).length ≤ 20 := by have := can_len p; unfold leftP at this; simp only [List.length_append] at hlen; omega
    have ih : ∀ c ∈ canC p, rcP vfC S n 0 [memD (.int 1), plD (layC p c).1, .int (bI who), .int (least - ldW who (layC p c).2)] = some (papD who n (layC p c).1 (least - ldW who (layC p c).2)) := fun c hc => paper_from_ok hS n _ _ (layC_ok ok hc).1 (hp.lay ok hc) (by have := left_lay ok hc; omega) (by have := left_lay ok hc; omega)
    have hit : cItT (cCall F_can (cArgs 1 (cCons (cV 1) cNil))) [.va (memD (.int 1)), .va (plD p), .va (.int (bI who)), .va (.int least), .ow [], .no, .no, .no, .no] = some ((canC p).map cdD) := eItT (eC (ds := [plD p]) (eArgs (eCons rfl rfl) rfl) (can_ok (p := p) (by omega)))
    show runF 9 (B_paper_from vfC S (rcP vfC S n 0)) _ = _
    apply run_rt
    show B_paper_from vfC S (rcP vfC S n 0) [.va (memD (.int 1)), .va (plD p), .va (.int (bI who)), .va (.int least), .no, .no, .no, .no, .no] = _
    unfold B_paper_from
    refine s_own (ds := []) (eChk rfl (by simp)) ?_
    cases hw : p.turn with
    | none =>
      have hc : canC p = [] := by unfold canC; rw [hw]
      rw [hc] at hit
      rw [papD_none hw]
      exact s_for hit rfl (s_frz rfl (r_ret (d := .tuple []) (eC (ds := [.list []]) (eCons rfl rfl) rfl) rfl))
    | some w =>
      have htn : ∀ (acc : List D) (x5 x6 x7 x8 : Sl), cT1 asB (c2 neD (c2 ixD (cV 1) (cC (.int 2))) (cV 2)) [.va (memD (.int 1)), .va (plD p), .va (.int (bI who)), .va (.int least), .ow acc, x5, x6, x7, x8] = some (!decide (w = who)) := fun _ _ _ _ _ => eT (e2 (d := .int (bI w)) (e2 rfl rfl (by rw [ix2_pl, hw]; rfl)) rfl ne_who) rfl
      by_cases z : w = who
      · subst z
        rw [papD_own hw]
        have loop : ∀ (l : List Cd) (x5 x6 x7 x8 : Sl), (∀ c ∈ l, c ∈ canC p) → (∃ y5 y6 y7 y8, forL (gV 5) (pfB S (rcP vfC S n 0)) (l.map cdD) [.va (memD (.int 1)), .va (plD p), .va (.int (bI w)), .va (.int least), .ow [], x5, x6, x7, x8] = some (.nx [.va (memD (.int 1)), .va (plD p), .va (.int (bI w)), .va (.int least), .ow [], y5, y6, y7, y8]) ∧ l.find? (papT w p least) = none) ∨
            (∃ c, forL (gV 5) (pfB S (rcP vfC S n 0)) (l.map cdD) [.va (memD (.int 1)), .va (plD p), .va (.int (bI w)), .va (.int least), .ow [], x5, x6, x7, x8] = some (.rt (.tuple [cdD c, papD w n (layC p c).1 (least - ldW w (layC p c).2)])) ∧ l.find? (papT w p least) = some c) := fun l => by
          induction l with
          | nil => intro x5 x6 x7 x8 _; exact .inl ⟨x5, x6, x7, x8, rfl, rfl⟩
          | cons c l il =>
            intro x5 x6 x7 x8 hm
            have hc := hm c List.mem_cons_self
            have hlc := left_lay ok hc
            have hg := gets_ok hS (layC_ok ok hc).1 (hp.lay ok hc) (by omega) w
            have h2 : cT1 asB (c2 geD (cCall (F_gets vfC S) (cArgs 3 (cCons (cV 0) (cCons (cV 6) (cCons (cV 2) cNil))))) (cV 8)) [.va (memD (.int 1)), .va (plD p), .va (.int (bI w)), .va (.int least), .ow [], .va (cdD c), .va (plD (layC p c).1), .va (.tuple (hadD (layC p c).2)), .va (.int (least - ldW w (layC p c).2))] = some (papT w p least c) :=
              eT (e2 (eC (ds := [memD (.int 1), plD (layC p c).1, .int (bI w)]) (eArgs (eCons rfl (eCons rfl (eCons rfl rfl))) rfl) hg) rfl rfl) rfl
            have h1 := htn [] (.va (cdD c)) (.va (plD (layC p c).1)) (.va (.tuple (hadD (layC p c).2))) (.va (.int (least - ldW w (layC p c).2)))
            rw [decide_eq_true rfl] at h1
            cases t : papT w p least c with
            | true =>
              rw [t] at h2
              refine .inr ⟨c, ?_, by rw [List.find?_cons, t]⟩
              rw [List.map_cons]
              refine forL_rt (ρ1 := [.va (memD (.int 1)), .va (plD p), .va (.int (bI w)), .va (.int least), .ow [], .va (cdD c), x6, x7, x8]) rfl (pf_begin ok hc ?_)
              exact i_F h1 (i_T h2 (r_ret (eTup (eCons rfl (eCons (eC (ds := [memD (.int 1), plD (layC p c).1, .int (bI w), .int (least - ldW w (layC p c).2)]) (eArgs (eCons rfl (eCons rfl (eCons rfl (eCons rfl rfl)))) rfl) (ih c hc)) rfl)) (by simp)) rfl))
            | false =>
              rw [t] at h2
              have hstep : forL (gV 5) (pfB S (rcP vfC S n 0)) ((c :: l).map cdD) [.va (memD (.int 1)), .va (plD p), .va (.int (bI w)), .va (.int least), .ow [], x5, x6, x7, x8] = forL (gV 5) (pfB S (rcP vfC S n 0)) (l.map cdD) [.va (memD (.int 1)), .va (plD p), .va (.int (bI w)), .va (.int least), .ow [], .va (cdD c), .va (plD (layC p c).1), .va (.tuple (hadD (layC p c).2)), .va (.int (least - ldW w (layC p c).2))] := by
                rw [List.map_cons]
                exact forL_cons (ρ1 := [.va (memD (.int 1)), .va (plD p), .va (.int (bI w)), .va (.int least), .ow [], .va (cdD c), x6, x7, x8]) rfl (pf_begin ok hc (i_F h1 (i_F h2 rfl)))
              rw [hstep, List.find?_cons, t]
              exact il _ _ _ _ fun c' h => hm c' (List.mem_cons_of_mem _ h)
        rcases loop (canC p) .no .no .no .no fun _ h => h with ⟨y5, y6, y7, y8, h, e⟩ | ⟨c, h, e⟩
        · rw [e]
          exact s_for hit h (s_frz rfl (r_ret (d := .tuple []) (eC (ds := [.list []]) (eCons rfl rfl) rfl) rfl))
        · rw [e]
          exact s_forR hit h rfl
      · rw [papD_oth hw z]
        have loop : ∀ (l : List Cd) (acc : List D) (x5 x6 x7 x8 : Sl), (∀ c ∈ l, c ∈ canC p) → acc.length + l.length ≤ 1000 → ∃ y5 y6 y7 y8, forL (gV 5) (pfB S (rcP vfC S n 0)) (l.map cdD) [.va (memD (.int 1)), .va (plD p), .va (.int (bI who)), .va (.int least), .ow acc, x5, x6, x7, x8] =
            some (.nx [.va (memD (.int 1)), .va (plD p), .va (.int (bI who)), .va (.int least), .ow (acc ++ l.map fun c => .tuple [cdD c, papD who n (layC p c).1 (least - ldW who (layC p c).2)]), y5, y6, y7, y8]) := fun l => by
          induction l with
          | nil => intro acc x5 x6 x7 x8 _ _; exact ⟨x5, x6, x7, x8, by rw [List.map_nil, List.map_nil, List.append_nil]; rfl⟩
          | cons c l il =>
            intro acc x5 x6 x7 x8 hm hl
            rw [List.length_cons] at hl
            have hc := hm c List.mem_cons_self
            have h1 := htn acc (.va (cdD c)) (.va (plD (layC p c).1)) (.va (.tuple (hadD (layC p c).2))) (.va (.int (least - ldW who (layC p c).2)))
            rw [decide_eq_false z] at h1
            obtain ⟨y5, y6, y7, y8, h⟩ := il (acc ++ [.tuple [cdD c, papD who n (layC p c).1 (least - ldW who (layC p c).2)]]) (.va (cdD c)) (.va (plD (layC p c).1)) (.va (.tuple (hadD (layC p c).2))) (.va (.int (least - ldW who (layC p c).2))) (fun c' h => hm c' (List.mem_cons_of_mem _ h)) (by rw [List.length_append]; simp; omega)
            refine ⟨y5, y6, y7, y8, ?_⟩
            rw [List.append_assoc] at h
            rw [List.map_cons, List.map_cons]
            refine Eq.trans ?_ h
            refine forL_cons (ρ1 := [.va (memD (.int 1)), .va (plD p), .va (.int (bI who)), .va (.int least), .ow acc, .va (cdD c), x6, x7, x8]) rfl (pf_begin ok hc (i_T h1 ?_))
            exact app_nx rfl (eTup (eCons rfl (eCons (eC (ds := [memD (.int 1), plD (layC p c).1, .int (bI who), .int (least - ldW who (layC p c).2)]) (eArgs (eCons rfl (eCons rfl (eCons rfl (eCons rfl rfl)))) rfl) (ih c hc)) rfl)) (by simp)) (lim_of (by omega))
        obtain ⟨y5, y6, y7, y8, h⟩ := loop (canC p) [] .no .no .no .no (fun _ h => h) (by simp; omega)
        rw [List.nil_append] at h
        exact s_for hit h (s_frz rfl (r_ret (eC (eCons rfl rfl) rfl) rfl))
theorem paper_ok {S : List NestedKey} (hS : S.length ≤ 1000000) {p : Pl} (ok : PlOk p) (hp : InS S p) (hl : leftP p ≤ 9) (who : Bool) (least : Int) : F_paper vfC S [plD p, .int (bI who), .int least] = some (if sgI who * valP p < least then .none else papD who 20 p least) := by
  rw [F_paper_def]
  apply run_rt
  show B_paper vfC S [.va (plD p), .va (.int (bI who)), .va (.int least), .no] = _
  unfold B_paper
  refine s_set rfl ?_
  have ht : cT1 asB (c2 ltD (cCall (F_gets vfC S) (cArgs 3 (cCons (cV 3) (cCons (cV 0) (cCons (cV 1) cNil))))) (cV 2)) [.va (plD p), .va (.int (bI who)), .va (.int least), .va (memD (.int 1))] = some (decide (sgI who * valP p < least)) := eT (e2 (eC (ds := [memD (.int 1), plD p, .int (bI who)]) (eArgs (eCons rfl (eCons rfl (eCons rfl rfl))) rfl) (gets_ok hS ok hp hl who)) rfl rfl) rfl
  by_cases z : sgI who * valP p < least
  · rw [if_pos z]
    exact s_ifT (ht.trans (congrArg some (decide_eq_true z))) (s_ret rfl rfl)
  · rw [if_neg z]
    exact s_ifF (ht.trans (congrArg some (decide_eq_false z))) (s_next (r_ret (eC (ds := [memD (.int 1), plD p, .int (bI who), .int least]) (eArgs (eCons rfl (eCons rfl (eCons rfl (eCons rfl rfl)))) rfl) (paper_from_ok hS 20 p least ok hp (by omega) hl)) rfl))
/-! ### the program's word of any thing -/
theorem cd_ok {p : Pl} (ok : PlOk p) {c : Cd} (hc : c ∈ canC p) : CdOk c := ok.ok c (List.mem_append_left _ (canC_sub hc))
theorem ic_card {d : D} (h : icB d = true) : ∃ c, d = cdD c := by
  unfold icB at h
  split at h
  · rename_i a b
    rw [Bool.and_eq_true] at h
    cases a with
    | int i =>
      cases b with
      | int j => exact ⟨(i, j), rfl⟩
      | _ => exact absurd h.2 (by simp [wholeB])
    | _ => exact absurd h.1 (by simp [wholeB])
  · cases h
theorem ic_cd {c : Cd} (h : CdOk c) : icB (cdD c) = true := by
  obtain ⟨h1, h2, h3, h4⟩ := h
  show (decide (1 ≤ c.1) && decide (c.1 ≤ 13) && (decide (0 ≤ c.2) && decide (c.2 ≤ 3))) = true
  rw [decide_eq_true h1, decide_eq_true h2, decide_eq_true h3, decide_eq_true (by omega)]; rfl
theorem isQ_len {f : Pl → Int → D → Bool} {who : Bool} {p : Pl} {least : Int} {c : Cd} {d : D} (h : ∀ y, d ≠ .tuple [cdD c, y]) : isQ f who p least c d = false := by
  cases e : isQ f who p least c d with
  | false => rfl
  | true => obtain ⟨y, e1, _⟩ := isQ_some e; exact absurd e1 (h y)
theorem is_pair_ok {S : List NestedKey} {n : Nat} {f : Pl → Int → D → Bool} {who : Bool} {p : Pl} (ok : PlOk p) {least : Int} {c : Cd} (hc : c ∈ canC p) {d : D} {m : Nat} (hd : ThD m d)
    (hrec : ∀ y, ThD m y → rcI vfC S n 1 [plD (layC p c).1, .int (bI who), .int (least - ldW who (layC p c).2), y] = some (.bool (f (layC p c).1 (least - ldW who (layC p c).2) y))) :
    rcI vfC S (n + 1) 0 [plD p, .int (bI who), .int least, cdD c, d] = some (.bool (isQ f who p least c d)) := by
  show runF 7 (B_is_pair vfC S (rcI vfC S n 0) (rcI vfC S n 1)) _ = _
  apply run_rt
  show B_is_pair vfC S (rcI vfC S n 0) (rcI vfC S n 1) [.va (plD p), .va (.int (bI who)), .va (.int least), .va (cdD c), .va d, .no, .no] = _
  unfold B_is_pair
  have h1 : cNot (cT1 asB (c1 (isiD "tuple") (cV 4))) [.va (plD p), .va (.int (bI who)), .va (.int least), .va (cdD c), .va d, .no, .no] = some (!isTup d) := not_1 (eT (e1 rfl (isi_tupB hd.nd)) rfl)
  cases d with
  | tuple ds =>
    have h2 : cT1 asB (c2 neD (cCall lenD (cCons (cV 4) cNil)) (cC (.int 2))) [.va (plD p), .va (.int (bI who)), .va (.int least), .va (cdD c), .va (.tuple ds), .no, .no] = some (!decide ((ds.length : Int) = 2)) := eT (e2 (eC (eCons rfl rfl) (len_tup ds)) rfl (ne_int _ _)) rfl
    by_cases q : ds.length = 2
    · rw [decide_eq_true (by omega)] at h2
      obtain ⟨a, b, rfl⟩ : ∃ a b, ds = [a, b] := by
        match ds, q with
        | [a, b], _ => exact ⟨a, b, rfl⟩
      have ha : ThD m a := hd.sub a List.mem_cons_self
      have hb : ThD m b := hd.sub b (List.mem_cons_of_mem _ List.mem_cons_self)
      have h3 : cNot (cT1 asB (cCall F_is_card (cArgs 1 (cCons (c2 ixD (cV 4) (cC (.int 0))) cNil)))) [.va (plD p), .va (.int (bI who)), .va (.int least), .va (cdD c), .va (.tuple [a, b]), .no, .no] = some (!icB a) := not_1 (eT (eC (ds := [a]) (eArgs (eCons (e2 (d := .tuple [a, b]) (e := .int 0) rfl rfl rfl) rfl) rfl) (is_card_ok ha.nd2)) rfl)
      cases e : icB a with
      | false =>
        rw [e] at h3
        rw [isQ_len fun y z => by
          cases z
          rw [ic_cd (cd_ok ok hc)] at e; cases e]
        exact s_ifT (or_F h1 (or_F h2 (or_T h3))) (s_ret rfl rfl)
      | true =>
        rw [e] at h3
        obtain ⟨x, rfl⟩ := ic_card e
        have h4 : cT1 asB (c2 neD (c2 ixD (cV 4) (cC (.int 0))) (cV 3)) [.va (plD p), .va (.int (bI who)), .va (.int least), .va (cdD c), .va (.tuple [cdD x, b]), .no, .no] = some (!decide (x = c)) := eT (e2 (d := cdD x) (e := cdD c) (e2 (d := .tuple [cdD x, b]) (e := .int 0) rfl rfl rfl) rfl (ne_cd x c)) rfl
        by_cases z : x = c
        · subst z
          rw [decide_eq_true rfl] at h4
          refine s_ifF (or_F h1 (or_F h2 (or_F h3 h4))) (s_next ?_)
          refine s_asg (ρ1 := [.va (plD p), .va (.int (bI who)), .va (.int least), .va (cdD x), .va (.tuple [cdD x, b]), .va (plD (layC p x).1), .va (.tuple (hadD (layC p x).2))]) (eC (ds := [plD p, cdD x]) (eArgs (eCons rfl (eCons rfl rfl)) rfl) (lay_ok ok hc)) rfl ?_
          have hq : isQ f who p least x (.tuple [cdD x, b]) = f (layC p x).1 (least - ldW who (layC p x).2) b := by
            unfold isQ
            rw [headC_cd]
            show (decide (x = x) && _) = _
            rw [decide_eq_true rfl, Bool.true_and]
          rw [hq]
          refine r_ret (eC (ds := [plD (layC p x).1, .int (bI who), .int (least - ldW who (layC p x).2), b]) (eArgs (eCons rfl (eCons rfl (eCons (e2 rfl (eC (ds := [.tuple (hadD (layC p x).2), .int (bI who)]) (eArgs (eCons rfl (eCons rfl rfl)) rfl) (lead_ok _ (Nat.le_trans (had_len p x) (by decide)) who)) rfl) (eCons (e2 (d := .tuple [cdD x, b]) (e := .int 1) rfl rfl rfl) rfl)))) rfl) (hrec b hb)) rfl
        · rw [decide_eq_false z] at h4
          rw [isQ_len fun y e' => by
            have e1 : cdD x = cdD c := by
              have := PyData.tuple.inj e'
              exact (List.cons.inj this).1
            have e2 := PyData.tuple.inj e1
            simp only [List.cons.injEq, PyData.int.injEq, and_true] at e2
            exact z (Prod.ext e2.1 e2.2)]
          exact s_ifT (or_F h1 (or_F h2 (or_F h3 h4))) (s_ret rfl rfl)
    · rw [decide_eq_false (by omega)] at h2
      rw [isQ_len fun y z => q (by rw [PyData.tuple.inj z]; rfl)]
      exact s_ifT (or_F h1 (or_T h2)) (s_ret rfl rfl)
  | dict _ => exact absurd hd.1 (by simp [PyData.canLay0])
  | _ => exact s_ifT (or_T h1) (s_ret rfl rfl)
theorem zip_cds : ∀ (l : List Cd) (ds : List D), zipL (l.map cdD) ds = (l.zip ds).map fun x => PyData.tuple [cdD x.1, x.2]
  | [], ds => by simp [zipL]
  | c :: l, [] => by simp [zipL]
  | c :: l, d :: ds => by
    rw [List.map_cons, List.zip_cons_cons, List.map_cons, ← zip_cds l ds]; rfl
theorem any_bools {α : Type} (l : List α) (g : α → Bool) : anyD [.list (l.map fun c => PyData.bool (g c))] = some (.bool (l.any g)) := by
  show (boolsD _).bind _ = _
  rw [show (l.map fun c => PyData.bool (g c)) = (l.map g).map PyData.bool by rw [List.map_map]; rfl, bools_map]
  show some (PyData.bool ((l.map g).any id)) = _
  rw [List.any_map]; rfl
theorem all_bools {α : Type} (l : List α) (g : α → Bool) : allD [.list (l.map fun c => PyData.bool (g c))] = some (.bool (l.all g)) := by
  show (boolsD _).bind _ = _
  rw [show (l.map fun c => PyData.bool (g c)) = (l.map g).map PyData.bool by rw [List.map_map]; rfl, bools_map]
  show some (PyData.bool ((l.map g).all id)) = _
  rw [List.all_map]; rfl
theorem is_paper_ok {S : List NestedKey} {who : Bool} {m : Nat} : ∀ (n : Nat) (p : Pl) (least : Int) (d : D), PlOk p → leftP p < n → ThD m d → rcI vfC S (2 * n) 1 [plD p, .int (bI who), .int least, d] = some (.bool (isP who n p least d))
  | 0, p, _, _, _, h, _ => absurd h (Nat.not_lt_zero _)
  | n + 1, p, least, d, ok, hn, hd => by
    have hlen := ok.len
    have hcl : (canC p).length ≤ 20 := by have := can_len p; unfold leftP at this; simp only [List.length_append] at hlen; omega
    have hq : ∀ (c : Cd) (d : D), c ∈ canC p → ThD m d → rcI vfC S (2 * n + 1) 0 [plD p, .int (bI who), .int least, cdD c, d] = some (.bool (isQ (isP who n) who p least c d)) := fun c d hc hd =>
      is_pair_ok ok hc hd fun y hy => is_paper_ok n _ _ y (layC_ok ok hc).1 (by have := left_lay ok hc; omega) hy
    show runF 7 (B_is_paper vfC S (rcI vfC S (2 * n + 1) 0) (rcI vfC S (2 * n + 1) 1)) _ = _
    apply run_rt
    show B_is_paper vfC S (rcI vfC S (2 * n + 1) 0) (rcI vfC S (2 * n + 1) 1) [.va (plD p), .va (.int (bI who)), .va (.int least), .va d, .no, .no, .no] = _
    unfold B_is_paper
    have h1 : cNot (cT1 asB (c1 (isiD "tuple") (cV 3))) [.va (plD p), .va (.int (bI who)), .va (.int least), .va d, .no, .no, .no] = some (!isTup d) := not_1 (eT (e1 rfl (isi_tupB hd.nd)) rfl)
    cases htp : isTup d with
    | false =>
      rw [htp] at h1
      rw [isP_not htp]
      exact s_ifT h1 (s_ret rfl rfl)
    | true =>
      rw [htp] at h1
      obtain ⟨ds, rfl⟩ : ∃ ds, d = .tuple ds := by
        cases d with
        | tuple ds => exact ⟨ds, rfl⟩
        | _ => cases htp
      refine s_ifF h1 (s_next ?_)
      refine s_set (d := cdT (canC p)) (eC (ds := [plD p]) (eArgs (eCons rfl rfl) rfl) (can_ok (p := p) (by omega))) ?_
      have ht : cT1 asB (c2 isD (c2 ixD (cV 0) (cC (.int 2))) (cC .none)) [.va (plD p), .va (.int (bI who)), .va (.int least), .va (.tuple ds), .va (cdT (canC p)), .no, .no] = some (decide (p.turn = none)) := eT (e2 (e2 rfl rfl (ix2_pl p)) rfl (isn_pl _)) rfl
      cases hw : p.turn with
      | none =>
        rw [isP_none hw]
        refine s_ifT (ht.trans (congrArg some (decide_eq_true hw))) (s_ret (andV_2 (e2 (eC (eCons rfl rfl) (len_tup ds)) rfl (eq_int _ _)) (e2 rfl rfl rfl)) ?_)
        have : decide ((ds.length : Int) = 0) = decide (ds.length = 0) := by rw [decide_eq_decide]; omega
        rw [this]
      | some w =>
        refine s_ifF (ht.trans (congrArg some (decide_eq_false (by rw [hw]; exact nofun)))) (s_next ?_)
        have h2 : cT1 asB (c2 eqD (c2 ixD (cV 0) (cC (.int 2))) (cV 1)) [.va (plD p), .va (.int (bI who)), .va (.int least), .va (.tuple ds), .va (cdT (canC p)), .no, .no] = some (decide (w = who)) := eT (e2 (d := .int (bI w)) (e2 rfl rfl (by rw [ix2_pl, hw]; rfl)) rfl eq_who) rfl
        by_cases z : w = who
        · subst z
          rw [isP_own hw]
          refine s_ifT (h2.trans (congrArg some (decide_eq_true rfl))) (s_ret (eC (ds := [.list ((canC p).map fun c => PyData.bool (isQ (isP w n) w p least c (.tuple ds)))]) (eCons ?_ rfl) (any_bools _ _)) rfl)
          exact eLcA (l := canC p) (enc := cdD) (out := fun c => PyData.bool (isQ (isP w n) w p least c (.tuple ds))) (eItT rfl) (by omega) fun c hc => ⟨[.va (plD p), .va (.int (bI w)), .va (.int least), .va (.tuple ds), .va (cdT (canC p)), .va (cdD c), .no], rfl, eC (ds := [plD p, .int (bI w), .int least, cdD c, .tuple ds]) (eArgs (eCons rfl (eCons rfl (eCons rfl (eCons rfl (eCons rfl rfl))))) rfl) (hq c _ hc hd)⟩
        · rw [isP_oth hw z]
          refine s_ifF (h2.trans (congrArg some (decide_eq_false z))) (s_next ?_)
          have h3 : cT1 asB (c2 neD (cCall lenD (cCons (cV 3) cNil)) (cCall lenD (cCons (cV 4) cNil))) [.va (plD p), .va (.int (bI who)), .va (.int least), .va (.tuple ds), .va (cdT (canC p)), .no, .no] = some (!decide ((ds.length : Int) = ((canC p).length : Nat))) := eT (e2 (eC (eCons rfl rfl) (len_tup ds)) (eC (eCons rfl rfl) (len_cdT _)) (ne_int _ _)) rfl
          by_cases y : ds.length = (canC p).length
          · rw [decide_eq_true (by omega)] at h3
            rw [decide_eq_true y, Bool.true_and]
            refine s_ifF h3 (s_next (r_ret (eC (ds := [.list (((canC p).zip ds).map fun x => PyData.bool (isQ (isP who n) who p least x.1 x.2))]) (eCons ?_ rfl) (all_bools _ _)) rfl))
            refine eLcA (ρ := [.va (plD p), .va (.int (bI who)), .va (.int least), .va (.tuple ds), .va (cdT (canC p)), .no, .no]) (g := gT 2 (gC (gV 5) (gC (gV 6) gN))) (vs := [5, 6]) (l := (canC p).zip ds) (enc := fun x => PyData.tuple [cdD x.1, x.2]) (out := fun x => PyData.bool (isQ (isP who n) who p least x.1 x.2)) ?_ (by rw [List.length_zip]; omega) fun x hx => ⟨[.va (plD p), .va (.int (bI who)), .va (.int least), .va (.tuple ds), .va (cdT (canC p)), .va (cdD x.1), .va x.2], rfl, ?_⟩
            · exact congrArg some (zip_cds _ _)
            · obtain ⟨a, b⟩ := x
              obtain ⟨hx1, hx2⟩ := List.of_mem_zip hx
              exact eC (ds := [plD p, .int (bI who), .int least, cdD a, b]) (eArgs (eCons rfl (eCons rfl (eCons rfl (eCons rfl (eCons rfl rfl))))) rfl) (hq a b hx1 (hd.sub b hx2))
          · rw [decide_eq_false (by omega)] at h3
            rw [decide_eq_false y, Bool.false_and]
            exact s_ifT h3 (s_ret rfl rfl)
/-! ### the law's word of any thing -/
def licB (d : D) : Bool := match d with
  | .tuple [a, b] => (isIntB a && !isBoolB a) && (isIntB b && !isBoolB b)
  | _ => false
theorem lic_cd (c : Cd) : licB (cdD c) = true := rfl
theorem lic_card {d : D} (h : licB d = true) : ∃ c, d = cdD c := by
  unfold licB at h
  split at h
  · rename_i a b
    rw [Bool.and_eq_true] at h
    cases a with
    | int i =>
      cases b with
      | int j => exact ⟨(i, j), rfl⟩
      | _ => exact absurd h.2 (by simp [isIntB, isBoolB])
    | _ => exact absurd h.1 (by simp [isIntB, isBoolB])
  · cases h
theorem lic_two {ds : List D} (h : licB (.tuple ds) = true) : ds.length = 2 := by
  match ds with
  | [] => cases h
  | [a] => cases h
  | [a, b] => rfl
  | a :: b :: c :: t => cases h
theorem law_is_card_ok {d : D} (h : ThD 59 d) : F_law_is_card [d] = some (.bool (licB d)) := by
  rw [F_law_is_card_def]
  apply run_rt
  show B_law_is_card [.va d, .no] = _
  unfold B_law_is_card
  have h1 : cNot (cT1 asB (c1 (isiD "tuple") (cV 0))) [.va d, .no] = some (!isTup d) := not_1 (eT (e1 rfl (isi_tupB h.nd)) rfl)
  cases d with
  | tuple ds =>
    have h2 : cT1 asB (c2 neD (cCall lenD (cCons (cV 0) cNil)) (cC (.int 2))) [.va (.tuple ds), .no] = some (!decide ((ds.length : Int) = 2)) := eT (e2 (eC (eCons rfl rfl) (len_tup ds)) rfl (ne_int _ _)) rfl
    by_cases q : ds.length = 2
    · rw [decide_eq_true (by omega)] at h2
      obtain ⟨a, b, rfl⟩ : ∃ a b, ds = [a, b] := by
        match ds, q with
        | [a, b], _ => exact ⟨a, b, rfl⟩
      have ha := h.sub a List.mem_cons_self
      have hb := h.sub b (List.mem_cons_of_mem _ List.mem_cons_self)
      have hsub : ∀ x ∈ [a, b], ThD 59 x := h.sub
      have hlc := eLcM (ρ := [.va (.tuple [a, b]), .no]) (it := cItT (cV 0)) (vs := [1]) (g := gV 1) (t := cOr (cNot (cT1 asB (c1 (isiD "int") (cV 1)))) (cT1 asB (c1 (isiD "bool") (cV 1)))) (f := cV 1) (l := [a, b]) (enc := id) (out := id) (p := fun x => !isIntB x || isBoolB x) (by rw [List.map_id]; rfl) (by simp) fun x hx =>
        ⟨[.va (.tuple [a, b]), .va x], rfl, or_2 (not_1 (eT (e1 (d := x) rfl (isi_intB (hsub x hx).nd)) rfl)) (eT (e1 (d := x) rfl (isi_boolB (hsub x hx).nd)) rfl), fun _ => rfl⟩
      rw [List.map_id] at hlc
      refine s_ifF (or_F h1 h2) (s_next (r_ret (d := .bool (licB (.tuple [a, b]))) (e2 hlc (eL (eChk rfl (by simp))) ?_) rfl))
      rw [eq_nil (ThD.shaped (thL.mpr fun x hx => hsub x ((List.mem_filter.mp hx).1)))]
      congr 2
      show decide _ = ((isIntB a && !isBoolB a) && (isIntB b && !isBoolB b))
      rw [List.filter_cons, List.filter_cons, List.filter_nil]
      cases isIntB a <;> cases isBoolB a <;> cases isIntB b <;> cases isBoolB b <;> simp
    · rw [decide_eq_false (by omega)] at h2
      refine s_ifT (or_F h1 h2) (s_ret (d := .bool false) rfl ?_)
      cases e : licB (.tuple ds) with
      | false => rfl
      | true => exact absurd (lic_two e) q
  | dict _ => exact absurd h.1 (by simp [PyData.canLay0])
  | _ => exact s_ifT (or_T h1) (s_ret (d := .bool false) rfl rfl)
theorem any_isQ {f : Pl → Int → D → Bool} {who : Bool} {p : Pl} {least : Int} {c : Cd} {y : D} (hc : c ∈ canC p) : ((canC p).any fun x => isQ f who p least x (.tuple [cdD c, y])) = f (layC p c).1 (least - ldW who (layC p c).2) y := by
  cases e : f (layC p c).1 (least - ldW who (layC p c).2) y with
  | true => exact List.any_eq_true.mpr ⟨c, hc, isQ_of e⟩
  | false =>
    rw [Bool.eq_false_iff]
    intro h
    obtain ⟨x, _, hq⟩ := List.any_eq_true.mp h
    obtain ⟨y', e1, e2⟩ := isQ_some hq
    have h1 := List.cons.inj (PyData.tuple.inj e1)
    have h2 := (List.cons.inj h1.2).1
    have h3 := PyData.tuple.inj h1.1
    simp only [List.cons.injEq, PyData.int.injEq, and_true] at h3
    have : c = x := Prod.ext h3.1 h3.2
    subst this
    subst h2
    rw [e] at e2; cases e2
theorem any_isQ_not {f : Pl → Int → D → Bool} {who : Bool} {p : Pl} {least : Int} {d : D} (h : ∀ c ∈ canC p, ∀ y, d ≠ .tuple [cdD c, y]) : ((canC p).any fun x => isQ f who p least x d) = false := by
  rw [Bool.eq_false_iff]
  intro h'
  obtain ⟨x, hx, hq⟩ := List.any_eq_true.mp h'
  obtain ⟨y, e, _⟩ := isQ_some hq
  exact h x hx y e
theorem cd_inj {x c : Cd} {b y : D} (e : PyData.tuple [cdD x, b] = .tuple [cdD c, y]) : x = c := by
  have h3 := PyData.tuple.inj (List.cons.inj (PyData.tuple.inj e)).1
  simp only [List.cons.injEq, PyData.int.injEq, and_true] at h3
  exact Prod.ext h3.1 h3.2
theorem law_lead_ok {ρ : Ev} {j w a b : Nat} {who : Bool} {l : List (Bool × Int)} (hl : l.length ≤ 1000) (h : ρ[j]? = some (.va (.list (hadD l)))) (hw : ρ[w]? = some (.va (.int (bI who)))) (ha : a < ρ.length) (hb : b < ρ.length) (hab : a ≠ b) (hwa : w ≠ a) (hwb : w ≠ b) :
    cCall sumD (cCons (cL (cLc (cIt (cV j)) [a, b] (gT 2 (gC (gV a) (gC (gV b) gN))) cYes (c2 mulD (cV b) (c2 ixD (cL (chk 1000 (cCons (c1 negD (cC (.int 1))) (cCons (cC (.int 1)) cNil)))) (cCall intD (cCons (c2 eqD (cV a) (cV w)) cNil)))))) cNil) ρ = some (.int (ldW who l)) := by
  refine sum_list (ns := l.map fun x => x.2 * (1 - 2 * (if x.1 = who then 0 else 1))) ?_
  refine Eq.trans (b := some (PyData.list (l.map fun x => PyData.int (x.2 * (1 - 2 * (if x.1 = who then 0 else 1)))))) ?_ (by rw [List.map_map]; rfl)
  have hv : cV j ρ = some (.list (hadD l)) := by unfold cV; rw [h]
  refine eLcA (g := gT 2 (gC (gV a) (gC (gV b) gN))) (vs := [a, b]) (l := l) (enc := fun x => .tuple [.int (bI x.1), .int x.2]) (out := fun x => PyData.int (x.2 * (1 - 2 * (if x.1 = who then 0 else 1)))) (eIt hv) (by omega) fun x _ => ⟨((wipeE ρ [a, b]).set a (.va (.int (bI x.1)))).set b (.va (.int x.2)), rfl, ?_⟩
  have la := wipe_len ρ
  have h1 : cV a (((wipeE ρ [a, b]).set a (.va (.int (bI x.1)))).set b (.va (.int x.2))) = some (.int (bI x.1)) := by
    unfold cV; rw [List.getElem?_set_ne (Ne.symm hab), List.getElem?_set_self (by rw [la]; exact ha)]
  have h2 : cV b (((wipeE ρ [a, b]).set a (.va (.int (bI x.1)))).set b (.va (.int x.2))) = some (.int x.2) := by
    unfold cV; rw [List.getElem?_set_self (by rw [List.length_set, la]; exact hb)]
  have h3 : cV w (((wipeE ρ [a, b]).set a (.va (.int (bI x.1)))).set b (.va (.int x.2))) = some (.int (bI who)) := by
    unfold cV
    rw [List.getElem?_set_ne (Ne.symm hwb), List.getElem?_set_ne (Ne.symm hwa)]
    show (match (((wipeE ρ [b]).set a .no) : Ev)[w]? with | some (.va d) => some d | _ => none) = _
    rw [List.getElem?_set_ne (Ne.symm hwa)]
    show (match ((ρ.set b .no) : Ev)[w]? with | some (.va d) => some d | _ => none) = _
    rw [List.getElem?_set_ne (Ne.symm hwb), hw]
  obtain ⟨t, g⟩ := x
  refine e2 (d := .int g) (e := .int (1 - 2 * (if t = who then 0 else 1))) h2 (e2 (d := .list [.int (-1), .int 1]) (e := .int (if t = who then 1 else 0)) (eL (eChk (eCons (e1 rfl rfl) (eCons rfl rfl)) (by simp))) (eC (ds := [.bool (decide (t = who))]) (eCons (e2 h1 h3 eq_who) rfl) ?_) ?_) ?_
  · cases t <;> cases who <;> rfl
  · cases t <;> cases who <;> rfl
  · exact mul_int (.inr (by cases t <;> cases who <;> decide))
theorem law_is_pair_ok {S : List NestedKey} {n : Nat} {f : Pl → Int → D → Bool} {who : Bool} {p : Pl} (ok : PlOk p) {least : Int} {d : D} (hd : ThD 59 d)
    (hrec : ∀ c ∈ canC p, ∀ y, ThD 59 y → rcQ vfC S n 1 [plD (layC p c).1, .int (bI who), .int (least - ldW who (layC p c).2), y] = some (.bool (f (layC p c).1 (least - ldW who (layC p c).2) y))) :
    rcQ vfC S (n + 1) 0 [plD p, .int (bI who), .int least, d] = some (.bool ((canC p).any fun c => isQ f who p least c d)) := by
  have hlen := ok.len
  show runF 8 (B_law_is_pair vfC S (rcQ vfC S n 0) (rcQ vfC S n 1)) _ = _
  apply run_rt
  show B_law_is_pair vfC S (rcQ vfC S n 0) (rcQ vfC S n 1) [.va (plD p), .va (.int (bI who)), .va (.int least), .va d, .no, .no, .no, .no] = _
  unfold B_law_is_pair
  have h1 : cNot (cT1 asB (c1 (isiD "tuple") (cV 3))) [.va (plD p), .va (.int (bI who)), .va (.int least), .va d, .no, .no, .no, .no] = some (!isTup d) := not_1 (eT (e1 rfl (isi_tupB hd.nd)) rfl)
  cases d with
  | tuple ds =>
    have h2 : cT1 asB (c2 neD (cCall lenD (cCons (cV 3) cNil)) (cC (.int 2))) [.va (plD p), .va (.int (bI who)), .va (.int least), .va (.tuple ds), .no, .no, .no, .no] = some (!decide ((ds.length : Int) = 2)) := eT (e2 (eC (eCons rfl rfl) (len_tup ds)) rfl (ne_int _ _)) rfl
    by_cases q : ds.length = 2
    · rw [decide_eq_true (by omega)] at h2
      obtain ⟨a, b, rfl⟩ : ∃ a b, ds = [a, b] := by
        match ds, q with
        | [a, b], _ => exact ⟨a, b, rfl⟩
      have ha : ThD 59 a := hd.sub a List.mem_cons_self
      have hb : ThD 59 b := hd.sub b (List.mem_cons_of_mem _ List.mem_cons_self)
      have h3 : cNot (cT1 asB (cCall F_law_is_card (cArgs 1 (cCons (c2 ixD (cV 3) (cC (.int 0))) cNil)))) [.va (plD p), .va (.int (bI who)), .va (.int least), .va (.tuple [a, b]), .no, .no, .no, .no] = some (!licB a) := not_1 (eT (eC (ds := [a]) (eArgs (eCons (e2 (d := .tuple [a, b]) (e := .int 0) rfl rfl rfl) rfl) rfl) (law_is_card_ok ha)) rfl)
      cases e : licB a with
      | false =>
        rw [e] at h3
        rw [any_isQ_not fun c _ y z => by
          cases z
          rw [lic_cd] at e; cases e]
        exact s_ifT (or_F h1 (or_F h2 h3)) (s_ret rfl rfl)
      | true =>
        rw [e] at h3
        obtain ⟨x, rfl⟩ := lic_card e
        have hnin := nin_cdL x (canC p)
        have h4 : cT1 asB (c2 ninD (c2 ixD (cV 3) (cC (.int 0))) (cCall F_law_can (cArgs 1 (cCons (cV 0) cNil)))) [.va (plD p), .va (.int (bI who)), .va (.int least), .va (.tuple [cdD x, b]), .no, .no, .no, .no] = some (!decide (x ∈ canC p)) := eT (e2 (d := cdD x) (e2 (d := .tuple [cdD x, b]) (e := .int 0) rfl rfl rfl) (eC (ds := [plD p]) (eArgs (eCons rfl rfl) rfl) (law_can_ok (p := p) (by omega))) hnin) rfl
        refine s_ifF (or_F h1 (or_F h2 h3)) (s_next ?_)
        by_cases z : x ∈ canC p
        · rw [decide_eq_true z] at h4
          rw [any_isQ z]
          refine s_ifF h4 (s_next ?_)
          refine s_asg (ρ1 := [.va (plD p), .va (.int (bI who)), .va (.int least), .va (.tuple [cdD x, b]), .va (plD (layC p x).1), .va (.list (hadD (layC p x).2)), .no, .no]) (eC (ds := [plD p, cdD x]) (eArgs (eCons rfl (eCons (e2 (d := .tuple [cdD x, b]) (e := .int 0) rfl rfl rfl) rfl)) rfl) (law_lay_ok ok z)) rfl ?_
          refine r_ret (eC (ds := [plD (layC p x).1, .int (bI who), .int (least - ldW who (layC p x).2), b]) (eArgs (eCons rfl (eCons rfl (eCons (e2 rfl (law_lead_ok (who := who) (l := (layC p x).2) (Nat.le_trans (had_len p x) (by decide)) rfl rfl (by simp) (by simp) (by decide) (by decide) (by decide)) rfl) (eCons (e2 (d := .tuple [cdD x, b]) (e := .int 1) rfl rfl rfl) rfl)))) rfl) (hrec x z b hb)) rfl
        · rw [decide_eq_false z] at h4
          rw [any_isQ_not fun c hc y e' => z (by rw [cd_inj e']; exact hc)]
          exact s_ifT h4 (s_ret rfl rfl)
    · rw [decide_eq_false (by omega)] at h2
      rw [any_isQ_not fun c _ y z => q (by rw [PyData.tuple.inj z]; rfl)]
      exact s_ifT (or_F h1 (or_T h2)) (s_ret rfl rfl)
  | dict _ => exact absurd hd.1 (by simp [PyData.canLay0])
  | _ =>
    rw [any_isQ_not fun c _ y z => by cases z]
    exact s_ifT (or_T h1) (s_ret rfl rfl)
theorem eq_nilT {ds : List D} (h : SeqAt.shaped (.tuple ds) = true) : eqD (.tuple ds) (.tuple []) = some (.bool (decide (ds.length = 0))) := by
  unfold eqD
  rw [if_pos ⟨h, rfl⟩]
  cases ds with
  | nil => rfl
  | cons a l => simp [PyData.eqv, PyData.eqvAll]
noncomputable abbrev lpB (g0 : List D → Option D) : SF := (cIfS (cOr (cNot (cT1 asB (cCall g0 (cArgs 4 (cCons (cV 0) (cCons (cV 1) (cCons (cV 2) (cCons (cV 6) cNil)))))))) (cT1 asB (c2 neD (c2 ixD (cV 6) (cC (.int 0))) (cV 5)))) (cRet (cC (.bool false))) cNext)
theorem law_is_paper_ok {S : List NestedKey} {who : Bool} : ∀ (n : Nat) (p : Pl) (least : Int) (d : D), PlOk p → leftP p < n → ThD 59 d → rcQ vfC S (2 * n) 1 [plD p, .int (bI who), .int least, d] = some (.bool (isP who n p least d))
  | 0, p, _, _, _, h, _ => absurd h (Nat.not_lt_zero _)
  | n + 1, p, least, d, ok, hn, hd => by
    have hlen := ok.len
    have hcl : (canC p).length ≤ 20 := by have := can_len p; unfold leftP at this; simp only [List.length_append] at hlen; omega
    have hq : ∀ (d : D), ThD 59 d → rcQ vfC S (2 * n + 1) 0 [plD p, .int (bI who), .int least, d] = some (.bool ((canC p).any fun c => isQ (isP who n) who p least c d)) := fun d hd =>
      law_is_pair_ok ok hd fun c hc y hy => law_is_paper_ok n _ _ y (layC_ok ok hc).1 (by have := left_lay ok hc; omega) hy
    show runF 7 (B_law_is_paper vfC S (rcQ vfC S (2 * n + 1) 0) (rcQ vfC S (2 * n + 1) 1)) _ = _
    apply run_rt
    show B_law_is_paper vfC S (rcQ vfC S (2 * n + 1) 0) (rcQ vfC S (2 * n + 1) 1) [.va (plD p), .va (.int (bI who)), .va (.int least), .va d, .no, .no, .no] = _
    unfold B_law_is_paper
    have h1 : cNot (cT1 asB (c1 (isiD "tuple") (cV 3))) [.va (plD p), .va (.int (bI who)), .va (.int least), .va d, .no, .no, .no] = some (!isTup d) := not_1 (eT (e1 rfl (isi_tupB hd.nd)) rfl)
    cases htp : isTup d with
    | false =>
      rw [htp] at h1
      rw [isP_not htp]
      exact s_ifT h1 (s_ret rfl rfl)
    | true =>
      rw [htp] at h1
      obtain ⟨ds, rfl⟩ : ∃ ds, d = .tuple ds := by
        cases d with
        | tuple ds => exact ⟨ds, rfl⟩
        | _ => cases htp
      refine s_ifF h1 (s_next ?_)
      have ht : cT1 asB (c2 isD (c2 ixD (cV 0) (cC (.int 2))) (cC .none)) [.va (plD p), .va (.int (bI who)), .va (.int least), .va (.tuple ds), .no, .no, .no] = some (decide (p.turn = none)) := eT (e2 (e2 rfl rfl (ix2_pl p)) rfl (isn_pl _)) rfl
      cases hw : p.turn with
      | none =>
        rw [isP_none hw]
        exact s_ifT (ht.trans (congrArg some (decide_eq_true hw))) (s_ret (andV_2 (e2 rfl rfl (eq_nilT (hd.mono (by decide)).shaped)) (e2 rfl rfl rfl)) rfl)
      | some w =>
        refine s_ifF (ht.trans (congrArg some (decide_eq_false (by rw [hw]; exact nofun)))) (s_next ?_)
        have h2 : cT1 asB (c2 eqD (c2 ixD (cV 0) (cC (.int 2))) (cV 1)) [.va (plD p), .va (.int (bI who)), .va (.int least), .va (.tuple ds), .no, .no, .no] = some (decide (w = who)) := eT (e2 (d := .int (bI w)) (e2 rfl rfl (by rw [ix2_pl, hw]; rfl)) rfl eq_who) rfl
        by_cases z : w = who
        · subst z
          rw [isP_own hw]
          exact s_ifT (h2.trans (congrArg some (decide_eq_true rfl))) (s_ret (eC (ds := [plD p, .int (bI w), .int least, .tuple ds]) (eArgs (eCons rfl (eCons rfl (eCons rfl (eCons rfl rfl)))) rfl) (hq _ hd)) rfl)
        · rw [isP_oth hw z]
          refine s_ifF (h2.trans (congrArg some (decide_eq_false z))) (s_next ?_)
          refine s_set (d := cdL (canC p)) (eC (ds := [plD p]) (eArgs (eCons rfl rfl) rfl) (law_can_ok (p := p) (by omega))) ?_
          have h3 : cT1 asB (c2 neD (cCall lenD (cCons (cV 3) cNil)) (cCall lenD (cCons (cV 4) cNil))) [.va (plD p), .va (.int (bI who)), .va (.int least), .va (.tuple ds), .va (cdL (canC p)), .no, .no] = some (!decide ((ds.length : Int) = ((canC p).length : Nat))) := eT (e2 (eC (eCons rfl rfl) (len_tup ds)) (eC (eCons rfl rfl) (len_cdL _)) (ne_int _ _)) rfl
          by_cases y : ds.length = (canC p).length
          · rw [decide_eq_true (by omega)] at h3
            rw [decide_eq_true y, Bool.true_and]
            refine s_ifF h3 (s_next ?_)
            have loop : ∀ (l : List (Cd × D)) (x5 x6 : Sl), (∀ x ∈ l, x.1 ∈ canC p ∧ ThD 59 x.2) →
                ((l.all fun x => isQ (isP who n) who p least x.1 x.2) = true ∧ ∃ y5 y6, forL (gT 2 (gC (gV 5) (gC (gV 6) gN))) (lpB (rcQ vfC S (2 * n + 1) 0)) (l.map fun x => PyData.tuple [cdD x.1, x.2]) [.va (plD p), .va (.int (bI who)), .va (.int least), .va (.tuple ds), .va (cdL (canC p)), x5, x6] = some (.nx [.va (plD p), .va (.int (bI who)), .va (.int least), .va (.tuple ds), .va (cdL (canC p)), y5, y6])) ∨
                ((l.all fun x => isQ (isP who n) who p least x.1 x.2) = false ∧ forL (gT 2 (gC (gV 5) (gC (gV 6) gN))) (lpB (rcQ vfC S (2 * n + 1) 0)) (l.map fun x => PyData.tuple [cdD x.1, x.2]) [.va (plD p), .va (.int (bI who)), .va (.int least), .va (.tuple ds), .va (cdL (canC p)), x5, x6] = some (.rt (.bool false))) := fun l => by
              induction l with
              | nil => intro x5 x6 _; exact .inl ⟨rfl, x5, x6, rfl⟩
              | cons x l il =>
                intro x5 x6 hm
                obtain ⟨c, e⟩ := x
                obtain ⟨hc, he⟩ := hm (c, e) List.mem_cons_self
                have hq' := hq e he
                have hnot : ∀ b, ((canC p).any fun c => isQ (isP who n) who p least c e) = b → cNot (cT1 asB (cCall (rcQ vfC S (2 * n + 1) 0) (cArgs 4 (cCons (cV 0) (cCons (cV 1) (cCons (cV 2) (cCons (cV 6) cNil))))))) [.va (plD p), .va (.int (bI who)), .va (.int least), .va (.tuple ds), .va (cdL (canC p)), .va (cdD c), .va e] = some (!b) := fun b hb =>
                  not_1 (eT (eC (ds := [plD p, .int (bI who), .int least, e]) (eArgs (eCons rfl (eCons rfl (eCons rfl (eCons rfl rfl)))) rfl) hq') (by rw [hb]; rfl))
                rw [List.map_cons, List.all_cons]
                cases hb : (canC p).any fun c => isQ (isP who n) who p least c e with
                | false =>
                  have hz : isQ (isP who n) who p least c e = false := by
                    cases q : isQ (isP who n) who p least c e with
                    | false => rfl
                    | true =>
                      have : ((canC p).any fun c => isQ (isP who n) who p least c e) = true := List.any_eq_true.mpr ⟨c, hc, q⟩
                      rw [hb] at this; cases this
                  refine .inr ⟨by show (isQ (isP who n) who p least c e && _) = false; rw [hz]; rfl, ?_⟩
                  exact forL_rt (ρ1 := [.va (plD p), .va (.int (bI who)), .va (.int least), .va (.tuple ds), .va (cdL (canC p)), .va (cdD c), .va e]) rfl (i_T (or_T (hnot _ hb)) (r_ret rfl rfl))
                | true =>
                  obtain ⟨c', _, hq2⟩ := List.any_eq_true.mp hb
                  obtain ⟨y', rfl, hf⟩ := isQ_some hq2
                  have hne : cT1 asB (c2 neD (c2 ixD (cV 6) (cC (.int 0))) (cV 5)) [.va (plD p), .va (.int (bI who)), .va (.int least), .va (.tuple ds), .va (cdL (canC p)), .va (cdD c), .va (.tuple [cdD c', y'])] = some (!decide (c' = c)) := eT (e2 (d := cdD c') (e := cdD c) (e2 (d := .tuple [cdD c', y']) (e := .int 0) rfl rfl rfl) rfl (ne_cd c' c)) rfl
                  by_cases w' : c' = c
                  · subst w'
                    rw [decide_eq_true rfl] at hne
                    rcases il (.va (cdD c')) (.va (.tuple [cdD c', y'])) (fun x hx => hm x (List.mem_cons_of_mem _ hx)) with ⟨ha, y5, y6, h⟩ | ⟨ha, h⟩
                    · refine .inl ⟨by show (isQ (isP who n) who p least c' _ && _) = true; rw [hq2, ha]; rfl, y5, y6, ?_⟩
                      exact (forL_cons (ρ1 := [.va (plD p), .va (.int (bI who)), .va (.int least), .va (.tuple ds), .va (cdL (canC p)), .va (cdD c'), .va (.tuple [cdD c', y'])]) rfl (i_F (or_F (hnot _ hb) hne) rfl)).trans h
                    · refine .inr ⟨by show (isQ (isP who n) who p least c' _ && _) = false; rw [ha, Bool.and_false], ?_⟩
                      exact (forL_cons (ρ1 := [.va (plD p), .va (.int (bI who)), .va (.int least), .va (.tuple ds), .va (cdL (canC p)), .va (cdD c'), .va (.tuple [cdD c', y'])]) rfl (i_F (or_F (hnot _ hb) hne) rfl)).trans h
                  · rw [decide_eq_false w'] at hne
                    have hz : isQ (isP who n) who p least c (.tuple [cdD c', y']) = false := isQ_len fun y'' e' => w' (cd_inj e')
                    refine .inr ⟨by show (isQ (isP who n) who p least c _ && _) = false; rw [hz]; rfl, ?_⟩
                    exact forL_rt (ρ1 := [.va (plD p), .va (.int (bI who)), .va (.int least), .va (.tuple ds), .va (cdL (canC p)), .va (cdD c), .va (.tuple [cdD c', y'])]) rfl (i_T (or_F (hnot _ hb) hne) (r_ret rfl rfl))
            have hit : cZipLT (cCons (cV 4) (cCons (cV 3) cNil)) [.va (plD p), .va (.int (bI who)), .va (.int least), .va (.tuple ds), .va (cdL (canC p)), .no, .no] = some (((canC p).zip ds).map fun x => PyData.tuple [cdD x.1, x.2]) := congrArg some (zip_cds _ _)
            rcases loop ((canC p).zip ds) .no .no (fun x hx => by
              obtain ⟨a, b⟩ := x
              obtain ⟨h1, h2⟩ := List.of_mem_zip hx
              exact ⟨h1, hd.sub b h2⟩) with ⟨ha, y5, y6, h⟩ | ⟨ha, h⟩
            · rw [ha]
              exact s_for hit h (r_ret rfl rfl)
            · rw [ha]
              exact s_forR hit h rfl
          · rw [decide_eq_false (by omega)] at h3
            rw [decide_eq_false y, Bool.false_and]
            exact s_ifT h3 (s_ret rfl rfl)
/-! ### lengths in things -/
inductive SzD : D → Prop
  | tup {ds : List D} : ds.length ≤ 1000 → (∀ d ∈ ds, SzD d) → SzD (.tuple ds)
  | oth {d : D} : isTup d = false → SzD d
theorem SzD.len {ds : List D} (h : SzD (.tuple ds)) : ds.length ≤ 1000 := by
  cases h with
  | tup a b => exact a
  | oth a => cases a
theorem SzD.sub {ds : List D} (h : SzD (.tuple ds)) : ∀ d ∈ ds, SzD d := by
  cases h with
  | tup a b => exact b
  | oth a => cases a
theorem sz_cd (c : Cd) : SzD (cdD c) := .tup (by simp) fun d hd => by
  rcases List.mem_cons.mp hd with rfl | hd
  · exact .oth rfl
  · rw [List.mem_singleton.mp hd]; exact .oth rfl
theorem sz_pair {c : Cd} {d : D} (h : SzD d) : SzD (.tuple [cdD c, d]) := .tup (by simp) fun x hx => by
  rcases List.mem_cons.mp hx with rfl | hx
  · exact sz_cd c
  · rw [List.mem_singleton.mp hx]; exact h
theorem pap_sz (who : Bool) : ∀ (n : Nat) (p : Pl) (least : Int), PlOk p → SzD (papD who n p least)
  | 0, p, least, _ => .tup (by simp) fun _ h => nomatch h
  | n + 1, p, least, ok => by
    have hlen := ok.len
    have hcl : (canC p).length ≤ 20 := by have := can_len p; unfold leftP at this; simp only [List.length_append] at hlen; omega
    have nil : SzD (.tuple []) := .tup (by simp) fun _ h => nomatch h
    cases h : p.turn with
    | none => rw [papD_none h]; exact nil
    | some w =>
      by_cases z : w = who
      · subst z
        rw [papD_own h]
        split
        · rename_i c e
          exact sz_pair (pap_sz w n _ _ (layC_ok ok (List.mem_of_find?_eq_some e)).1)
        · exact nil
      · rw [papD_oth h z]
        refine .tup (by rw [List.length_map]; omega) fun d hd => ?_
        obtain ⟨c, hc, rfl⟩ := List.mem_map.mp hd
        exact sz_pair (pap_sz who n _ _ (layC_ok ok hc).1)
theorem cut_mem {xs : List D} {lo hi : Option Int} {x : D} (h : x ∈ cutL xs lo hi) : x ∈ xs := List.mem_of_mem_drop (List.mem_of_mem_take h)
theorem cut_len (xs : List D) (lo hi : Option Int) : (cutL xs lo hi).length ≤ xs.length := by
  unfold cutL
  rw [List.length_take, List.length_drop]; omega
theorem atI_mem {xs : List D} {i : Int} (h0 : 0 ≤ i) (h1 : i < (xs.length : Nat)) : ∃ x, x ∈ xs ∧ L2.atI xs i = some x := by
  have hi : i.toNat < xs.length := by omega
  refine ⟨xs[i.toNat], List.getElem_mem _, ?_⟩
  have h := L2.atI_nat (xs := xs) (j := i.toNat) (List.getElem?_eq_getElem hi)
  rw [show ((i.toNat : Nat) : Int) = i by omega] at h
  exact h
theorem add_tup {xs ys : List D} (h : xs.length + ys.length ≤ 10000) : addD (.tuple xs) (.tuple ys) = some (.tuple (xs ++ ys)) := if_pos (Nat.le_of_lt (lim_of (by omega)))
/-! ### how deep, how wide a paper is, and what stands at its ends -/
inductive LfD : D → Prop
  | tup {ds : List D} : ds.length ≤ 1000 → (∀ d ∈ ds, LfD d) → LfD (.tuple ds)
  | int {i : Int} : 0 ≤ i → i < 14 → LfD (.int i)
theorem LfD.len {ds : List D} (h : LfD (.tuple ds)) : ds.length ≤ 1000 := by
  cases h with
  | tup a b => exact a
theorem LfD.sub {ds : List D} (h : LfD (.tuple ds)) : ∀ d ∈ ds, LfD d := by
  cases h with
  | tup a b => exact b
theorem lf_cd {c : Cd} (h : CdOk c) : LfD (cdD c) := .tup (by simp) fun d hd => by
  obtain ⟨h1, h2, h3, h4⟩ := h
  rcases List.mem_cons.mp hd with rfl | hd
  · exact .int (by omega) (by omega)
  · rw [List.mem_singleton.mp hd]; exact .int (by omega) (by omega)
theorem lf_pair {c : Cd} {d : D} (hc : CdOk c) (h : LfD d) : LfD (.tuple [cdD c, d]) := .tup (by simp) fun x hx => by
  rcases List.mem_cons.mp hx with rfl | hx
  · exact lf_cd hc
  · rw [List.mem_singleton.mp hx]; exact h
theorem can_cd {p : Pl} (ok : PlOk p) {c : Cd} (hc : c ∈ canC p) : CdOk c := ok.ok c (List.mem_append_left _ (canC_sub hc))
theorem pap_lf (who : Bool) : ∀ (n : Nat) (p : Pl) (least : Int), PlOk p → LfD (papD who n p least)
  | 0, p, least, _ => .tup (by simp) fun _ h => nomatch h
  | n + 1, p, least, ok => by
    have hlen := ok.len
    have hcl : (canC p).length ≤ 20 := by have := can_len p; unfold leftP at this; simp only [List.length_append] at hlen; omega
    have nil : LfD (.tuple []) := .tup (by simp) fun _ h => nomatch h
    cases h : p.turn with
    | none => rw [papD_none h]; exact nil
    | some w =>
      by_cases z : w = who
      · subst z
        rw [papD_own h]
        split
        · rename_i c e
          exact lf_pair (can_cd ok (List.mem_of_find?_eq_some e)) (pap_lf w n _ _ (layC_ok ok (List.mem_of_find?_eq_some e)).1)
        · exact nil
      · rw [papD_oth h z]
        refine .tup (by rw [List.length_map]; omega) fun d hd => ?_
        obtain ⟨c, hc, rfl⟩ := List.mem_map.mp hd
        exact lf_pair (can_cd ok hc) (pap_lf who n _ _ (layC_ok ok hc).1)
theorem pap_th2 (who : Bool) : ∀ (n : Nat) (p : Pl) (least : Int), PlOk p → ThD (2 * leftP p + 3) (papD who n p least)
  | 0, p, least, _ => ⟨rfl, by simp [papD, PyData.depth, PyData.depthAll]⟩
  | n + 1, p, least, ok => by
    have nil : ThD (2 * leftP p + 3) (.tuple []) := ⟨rfl, by simp [PyData.depth, PyData.depthAll]⟩
    have pr : ∀ c, c ∈ canC p → ThD (2 * leftP p + 2) (.tuple [cdD c, papD who n (layC p c).1 (least - ldW who (layC p c).2)]) := fun c hc => thT.mpr fun d hd => by
      have hl := left_lay ok hc
      rcases List.mem_cons.mp hd with rfl | hd
      · exact (th_cd c).mono (by omega)
      · rw [List.mem_singleton.mp hd]; exact (pap_th2 who n _ _ (layC_ok ok hc).1).mono (by omega)
    cases h : p.turn with
    | none => rw [papD_none h]; exact nil
    | some w =>
      by_cases z : w = who
      · subst z
        rw [papD_own h]
        split
        · rename_i c e
          exact (pr c (List.mem_of_find?_eq_some e)).mono (by omega)
        · exact nil
      · rw [papD_oth h z]
        refine thT.mpr fun d hd => ?_
        obtain ⟨c, hc, rfl⟩ := List.mem_map.mp hd
        exact pr c hc
/-- how many places -/
def lenW : Nat → D → Nat
  | 0, _ => 1
  | n + 1, d => match d with
    | .tuple ds => 1 + (ds.map (lenW n)).sum
    | _ => 1
theorem lenW_cd (n : Nat) (c : Cd) : lenW n (cdD c) ≤ 3 := by
  match n with
  | 0 => exact (by decide : (1 : Nat) ≤ 3)
  | 1 => exact Nat.le_refl _
  | n + 2 => exact Nat.le_refl _
def bW : Nat → Nat
  | 0 => 1
  | k + 1 => 1 + (k + 1) * (4 + bW k)
theorem sum_bd {α : Type} {f : α → Nat} {B : Nat} : ∀ l : List α, (∀ x ∈ l, f x ≤ B) → (l.map f).sum ≤ l.length * B
  | [], _ => by simp
  | a :: l, h => by
    have h1 := h a List.mem_cons_self
    have h2 := sum_bd l fun x hx => h x (List.mem_cons_of_mem _ hx)
    rw [List.map_cons, List.sum_cons, List.length_cons, Nat.succ_mul]
    omega
theorem bW_pos (k : Nat) : 1 ≤ bW k := by cases k <;> simp [bW]
theorem pap_len (who : Bool) : ∀ (m n : Nat) (p : Pl) (least : Int), PlOk p → lenW n (papD who m p least) ≤ bW (leftP p)
  | 0, n, p, least, _ => by
    have : lenW n (papD who 0 p least) = 1 := by cases n <;> rfl
    rw [this]; exact bW_pos _
  | m + 1, n, p, least, ok => by
    have nil : lenW n (.tuple []) ≤ bW (leftP p) := by
      have : lenW n (.tuple []) = 1 := by cases n <;> rfl
      rw [this]; exact bW_pos _
    have pr : ∀ c, c ∈ canC p → ∀ n, lenW n (.tuple [cdD c, papD who m (layC p c).1 (least - ldW who (layC p c).2)]) ≤ 4 + bW (leftP p - 1) := fun c hc n => by
      have hl := left_lay ok hc
      cases n with
      | zero => show 1 ≤ _; omega
      | succ n =>
        have h1 := lenW_cd n c
        have h2 := pap_len who m n _ (least - ldW who (layC p c).2) (layC_ok ok hc).1
        rw [show leftP (layC p c).1 = leftP p - 1 by omega] at h2
        show 1 + (lenW n (cdD c) + (lenW n (papD who m (layC p c).1 (least - ldW who (layC p c).2)) + 0)) ≤ _
        omega
    have up : ∀ c, c ∈ canC p → bW (leftP p) = 1 + leftP p * (4 + bW (leftP p - 1)) := fun c hc => by
      have hl := left_lay ok hc
      obtain ⟨k, ek⟩ : ∃ k, leftP p = k + 1 := ⟨leftP p - 1, by omega⟩
      rw [ek]; rfl
    cases h : p.turn with
    | none => rw [papD_none h]; exact nil
    | some w =>
      by_cases z : w = who
      · subst z
        rw [papD_own h]
        split
        · rename_i c e
          have hc := List.mem_of_find?_eq_some e
          have hl := left_lay ok hc
          refine Nat.le_trans (pr c hc n) ?_
          rw [up c hc]
          have : 1 * (4 + bW (leftP p - 1)) ≤ leftP p * (4 + bW (leftP p - 1)) := Nat.mul_le_mul_right _ (by omega)
          omega
        · exact nil
      · rw [papD_oth h z]
        cases n with
        | zero => exact bW_pos _
        | succ n =>
          show 1 + (((canC p).map fun c => _).map (lenW n)).sum ≤ _
          rw [List.map_map]
          have h1 := sum_bd (B := 4 + bW (leftP p - 1)) (f := lenW n ∘ fun c => PyData.tuple [cdD c, papD who m (layC p c).1 (least - ldW who (layC p c).2)]) (canC p) fun c hc => pr c hc n
          cases e : canC p with
          | nil => exact bW_pos _
          | cons c l =>
            have hc : c ∈ canC p := by rw [e]; exact List.mem_cons_self
            rw [up c hc, ← e]
            have h2 := Nat.mul_le_mul_right (4 + bW (leftP p - 1)) (can_len p)
            exact Nat.add_le_add_left (Nat.le_trans h1 h2) 1
theorem bW_le : ∀ k, k ≤ 6 → bW k ≤ 9781 := by decide
/-! ### places in a thing -/
def PathD : D → List Nat → Prop
  | _, [] => True
  | .tuple ds, i :: v => ∃ x, ds[i]? = some x ∧ PathD x v
  | _, _ :: _ => False
def wayD (v : List Nat) : List D := v.map fun i => .int (i : Nat)
abbrev wBody (g0 : List D → Option D) : SF := cAsg (c2 addD (cV 2) (cCall g0 (cArgs 2 (cCons (cV 4) (cCons (c2 addD (cV 1) (cTup (cCons (cV 3) cNil))) cNil))))) (gV 2)
theorem places_ok {S : List NestedKey} : ∀ (n m : Nat) (d : D) (w : List D), m ≤ n → w.length + m ≤ 900 → ThD m d → LfD d → lenW n d ≤ 20000 →
    ∃ ws, rcW vfC S (n + 1) 0 [d, .tuple w] = some (.list ws) ∧ 1 ≤ ws.length ∧ ws.length ≤ lenW n d ∧ ∀ x ∈ ws, ∃ v : List Nat, x = .tuple (w ++ wayD v) ∧ PathD d v ∧ v.length ≤ m
  | n, m, d, w, hm, hw, ht, hl, hN => by
    have ct : ∀ x2 x3 x4, cT1 asB (c1 (isiD "tuple") (cV 0)) [.va d, .va (.tuple w), x2, x3, x4] = some (isTup d) := fun _ _ _ => eT (e1 rfl (isi_tupB ht.nd)) rfl
    have key : ∃ ws, B_law_places_in vfC S (rcW vfC S n 0) [.va d, .va (.tuple w), .no, .no, .no] = some (.rt (.list ws)) ∧ 1 ≤ ws.length ∧ ws.length ≤ lenW n d ∧ ∀ x ∈ ws, ∃ v : List Nat, x = .tuple (w ++ wayD v) ∧ PathD d v ∧ v.length ≤ m := by
      unfold B_law_places_in
      have hself : ∀ x ∈ [PyData.tuple w], ∃ v : List Nat, x = .tuple (w ++ wayD v) ∧ PathD d v ∧ v.length ≤ m := fun x hx => by
        rw [List.mem_singleton.mp hx]
        refine ⟨[], by simp [wayD], ?_, Nat.zero_le _⟩
        cases d <;> trivial
      have h0 : cL (chk 1000 (cCons (cV 1) cNil)) [.va d, .va (.tuple w), .no, .no, .no] = some (.list [.tuple w]) := eL (eChk (eCons rfl rfl) (by simp))
      cases hd : d with
      | tuple ds =>
        rw [hd] at ht hl hN ct hself h0
        obtain ⟨m', rfl⟩ : ∃ m', m = m' + 1 := by
          cases m with
          | zero => have := ht.2; simp [PyData.depth] at this
          | succ k => exact ⟨k, rfl⟩
        obtain ⟨n', rfl⟩ : ∃ n', n = n' + 1 := ⟨n - 1, by omega⟩
        have hsub := thT.mp ht
        have hlf := hl.sub
        have hN' : 1 + (ds.map (lenW n')).sum ≤ 20000 := hN
        have loop : ∀ (es : List D) (k : Nat) (acc : List D) (x3 x4 : Sl), (∀ e ∈ es, ThD m' e ∧ LfD e) → acc.length + (es.map (lenW n')).sum ≤ 20000 →
            ∃ more y3 y4, forL (gT 2 (gC (gV 3) (gC (gV 4) gN))) (wBody (rcW vfC S (n' + 1) 0)) (enL k es) [.va (.tuple ds), .va (.tuple w), .va (.list acc), x3, x4] = some (.nx [.va (.tuple ds), .va (.tuple w), .va (.list (acc ++ more)), y3, y4]) ∧
              more.length ≤ (es.map (lenW n')).sum ∧ ∀ x ∈ more, ∃ (i : Nat) (e : D) (v : List Nat), es[i]? = some e ∧ PathD e v ∧ v.length ≤ m' ∧ x = .tuple (w ++ wayD ((k + i) :: v)) := by
          intro es
          induction es with
          | nil => exact fun k acc x3 x4 _ _ => ⟨[], x3, x4, by rw [List.append_nil]; rfl, Nat.le_refl _, fun x hx => nomatch hx⟩
          | cons e es ih =>
            intro k acc x3 x4 he hs
            rw [List.map_cons, List.sum_cons] at hs ⊢
            obtain ⟨te, le⟩ := he e List.mem_cons_self
            obtain ⟨ws, h1, h2, h3, h4⟩ := places_ok (S := S) n' m' e (w ++ [.int (k : Nat)]) (by omega) (by simp; omega) te le (by omega)
            obtain ⟨more, y3, y4, g1, g2, g3⟩ := ih (k + 1) (acc ++ ws) (.va (.int (k : Nat))) (.va e) (fun e' h' => he e' (List.mem_cons_of_mem _ h')) (by rw [List.length_append]; omega)
            refine ⟨ws ++ more, y3, y4, ?_, by rw [List.length_append]; omega, fun x hx => ?_⟩
            · refine (forL_cons (d := .tuple [.int (k : Nat), e]) (ρ1 := [.va (.tuple ds), .va (.tuple w), .va (.list acc), .va (.int (k : Nat)), .va e]) (ρ2 := [.va (.tuple ds), .va (.tuple w), .va (.list (acc ++ ws)), .va (.int (k : Nat)), .va e]) rfl ?_).trans ?_
              · refine set_nx (i := 2) (d := .list (acc ++ ws)) (e2 (d := .list acc) (e := .list ws) rfl (eC (ds := [e, .tuple (w ++ [.int (k : Nat)])]) (eArgs (eCons rfl (eCons (e2 (d := .tuple w) (e := .tuple [.int (k : Nat)]) rfl (eTup (eCons rfl rfl) (by simp)) (add_tup (by simp; omega))) rfl)) rfl) h1) (add_list (by omega)))
              · rw [List.append_assoc] at g1; exact g1
            · rcases List.mem_append.mp hx with hx | hx
              · obtain ⟨v, rfl, p1, p2⟩ := h4 x hx
                exact ⟨0, e, v, rfl, p1, p2, by rw [List.append_assoc]; rfl⟩
              · obtain ⟨i, e', v, q1, q2, q3, rfl⟩ := g3 x hx
                exact ⟨i + 1, e', v, q1, q2, q3, by rw [show k + 1 + i = k + (i + 1) by omega]⟩
        obtain ⟨more, y3, y4, g1, g2, g3⟩ := loop ds 0 [.tuple w] .no .no (fun e he => ⟨hsub e he, hlf e he⟩) (by simpa using hN')
        refine ⟨.tuple w :: more, ?_, by simp, by show _ ≤ 1 + _; simp; omega, fun x hx => ?_⟩
        · refine s_set (d := .list [.tuple w]) h0 ?_
          refine s_ifT (ct _ _ _) ?_
          exact s_for (ds := enL 0 ds) rfl g1 (r_ret (d := .list (.tuple w :: more)) rfl rfl)
        · rcases List.mem_cons.mp hx with rfl | hx
          · exact hself _ List.mem_cons_self
          · obtain ⟨i, e, v, q1, q2, q3, rfl⟩ := g3 x hx
            exact ⟨(0 + i) :: v, rfl, ⟨e, by rw [Nat.zero_add]; exact q1, q2⟩, by simp; omega⟩
      | dict _ => rw [hd] at ht; exact absurd ht.1 (by simp [PyData.canLay0])
      | _ =>
        rw [hd] at ct hself h0
        refine ⟨[.tuple w], ?_, Nat.le_refl _, by cases n <;> exact Nat.le_refl _, hself⟩
        exact s_set (d := .list [.tuple w]) h0 (s_ifF (ct _ _ _) (s_next (r_ret (d := .list [.tuple w]) rfl rfl)))
    obtain ⟨ws, h1, h2⟩ := key
    exact ⟨ws, run_rt h1, h2⟩
/-! ### what is put there -/
theorem log_small {i : Int} (h0 : 0 ≤ i) (h : i < 14) : i.natAbs.log2 < 1920 := by
  have : i.natAbs.log2 ≤ i.natAbs := Nat.log2_le_self _
  omega
theorem str_small {i : Int} (h0 : 0 ≤ i) (h : i < 14) : PyData.canLay0 (.str (toString i)) = true := by
  obtain ⟨n, rfl⟩ : ∃ n : Nat, i = (n : Int) := ⟨i.toNat, by omega⟩
  have k : ∀ n : Nat, n < 14 → PyData.canLay0 (.str (toString (n : Int))) = true := by decide +kernel
  exact k n (by omega)
theorem other_ok {m : Nat} {d : D} (ht : ThD m d) (hl : LfD d) (q : Int) : ∃ d', F_law_otherwise [d, .int q] = some d' ∧ ThD (m + 3) d' := by
  have key : ∃ d', B_law_otherwise [.va d, .va (.int q), .no] = some (.rt d') ∧ ThD (m + 3) d' := by
    unfold B_law_otherwise
    have ct : cT1 asB (c1 (isiD "tuple") (cV 0)) [.va d, .va (.int q), .no] = some (isTup d) := eT (e1 rfl (isi_tupB ht.nd)) rfl
    have hq : ∀ x2, c2 modD (cV 1) (cC (.int 5)) [.va d, .va (.int q), x2] = some (.int (q % 5)) := fun _ => e2 rfl rfl (mod_int (by decide))
    cases hl with
    | @tup ds hlen hs =>
      obtain ⟨L, eL'⟩ : ∃ L, L = [PyData.list ds, .list ds, .tuple (ds ++ cutL ds none (some 1)), .tuple (cutL ds (some 1) none), .list [.tuple ds]] := ⟨_, rfl⟩
      have hh : ∀ (l : List D), (∀ x ∈ l, x ∈ ds) → ThD (m + 1) (.tuple l) := fun l hl => thT.mpr fun x hx => ht.sub x (hl x hx)
      have hL : ∀ x ∈ L, ThD (m + 3) x := fun x hx => by
        rw [eL'] at hx
        simp only [List.mem_cons, List.not_mem_nil, or_false] at hx
        rcases hx with rfl | rfl | rfl | rfl | rfl
        · exact (thL.mpr ht.sub).mono (by omega)
        · exact (thL.mpr ht.sub).mono (by omega)
        · exact (hh _ fun x hx => (List.mem_append.mp hx).elim id cut_mem).mono (by omega)
        · exact (hh _ fun x hx => cut_mem hx).mono (by omega)
        · exact ((thL (n := m)).mpr fun x hx => by rw [List.mem_singleton.mp hx]; exact ht).mono (by omega)
      obtain ⟨x, hx, e⟩ := atI_mem (xs := L) (i := q % 5) (by omega) (by rw [eL']; show _ < ((5 : Nat) : Int); omega)
      refine ⟨x, s_ifT ct (seq_rt ?_), hL x hx⟩
      have hc1 := cut_len ds none (some 1)
      refine s_set (d := .list [PyData.list ds, .list ds, .tuple (ds ++ cutL ds none (some 1))]) ?_ ?_
      · refine eL (eChk (ds := [PyData.list ds, .list ds, .tuple (ds ++ cutL ds none (some 1))]) ?_ (by simp))
        exact eCons (eC (ds := [.tuple ds]) (eCons rfl rfl) rfl) (eCons (eC (ds := [.tuple ds]) (eCons rfl rfl) rfl) (eCons (e2 (d := .tuple ds) rfl (eSl (d := .tuple ds) rfl rfl (ePt rfl) rfl) (add_tup (by omega))) rfl))
      · refine r_ret (d := x) (e2 (d := .list L) (e := .int (q % 5)) ?_ (hq _) e) rfl
        rw [eL']
        refine e2 (d := .list [PyData.list ds, .list ds, .tuple (ds ++ cutL ds none (some 1))]) (e := .list [.tuple (cutL ds (some 1) none), .list [.tuple ds]]) rfl ?_ (add_list (by simp))
        exact eL (eChk (eCons (eSl (d := .tuple ds) rfl (ePt rfl) rfl rfl) (eCons (eL (eChk (eCons rfl rfl) (by simp))) rfl)) (by simp))
    | @int i hi hi2 =>
      have cb : cT1 asB (c1 (isiD "bool") (cV 0)) [.va (.int i), .va (.int q), .no] = some false := eT (e1 rfl (isi_boolB ht.nd)) rfl
      have ci : cT1 asB (c1 (isiD "int") (cV 0)) [.va (.int i), .va (.int q), .no] = some true := eT (e1 rfl (isi_intB ht.nd)) rfl
      obtain ⟨L, eL'⟩ : ∃ L, L = [PyData.bool true, .none, .str (toString i), .tuple [.int i], .int (-1 - i)] := ⟨_, rfl⟩
      have hL : ∀ x ∈ L, ThD (m + 3) x := fun x hx => by
        rw [eL'] at hx
        simp only [List.mem_cons, List.not_mem_nil, or_false] at hx
        rcases hx with rfl | rfl | rfl | rfl | rfl <;> exact ⟨by first | rfl | exact str_small hi hi2, by simp [PyData.depth, PyData.depthAll]⟩
      obtain ⟨x, hx, e⟩ := atI_mem (xs := L) (i := q % 5) (by omega) (by rw [eL']; show _ < ((5 : Nat) : Int); omega)
      refine ⟨x, s_ifF ct (s_next (s_ifF cb (s_next (s_ifT ci (seq_rt ?_))))), hL x hx⟩
      have hst : strD [.int i] = some (.str (toString i)) := if_pos (log_small hi hi2)
      refine s_set (d := .list [PyData.bool true, .none, .str (toString i), .tuple [.int i]]) ?_ ?_
      · exact eL (eChk (eCons rfl (eCons rfl (eCons (eC (ds := [.int i]) (eCons rfl rfl) hst) (eCons (eTup (eCons rfl rfl) (by simp)) rfl)))) (by simp))
      · refine r_ret (d := x) (e2 (d := .list L) (e := .int (q % 5)) ?_ (hq _) e) rfl
        rw [eL']
        refine e2 (d := .list [PyData.bool true, .none, .str (toString i), .tuple [.int i]]) (e := .list [.int (-1 - i)]) rfl ?_ (add_list (by simp))
        exact eL (eChk (eCons (e2 (d := .int (-1)) (e := .int i) (e1 rfl rfl) rfl rfl) rfl) (by simp))
  obtain ⟨d', h, t⟩ := key
  refine ⟨d', ?_, t⟩
  rw [F_law_otherwise_def]
  exact run_rt h
theorem eClo {j : Nat} {f B : EF} {ρ : Ev} {n : Int} {d : D} {o : Option D} (h : cV j ρ = some (memD (.tuple [.int 78, .int n]))) (h2 : f ρ = some d) (hc : PyData.canLay0 d = true) (hB : B [.va d, .va (.int n)] = o) : cClo j f B ρ = o := by
  unfold cClo
  rw [h]
  show (f ρ).bind _ = _
  rw [h2]
  show (if _ then _ else _) = _
  rw [if_pos hc]
  exact hB
theorem ePutL {j : Nat} {F : List D → Option D} {f1 f2 : EF} {ρ : Ev} {n : Int} {d1 d2 r : D} (h : cV j ρ = some (.int n)) (h1 : f1 ρ = some d1) (h2 : f2 ρ = some d2) (hF : F [d1, d2, memD (.tuple [.int 78, .int n])] = some r) (hc : PyData.canLay0 r = true) : cPutL j F f1 f2 ρ = some r := by
  unfold cPutL
  rw [h]
  show (f1 ρ).bind _ = _
  rw [h1]
  show (f2 ρ).bind _ = _
  rw [h2]
  show (F _).bind _ = _
  rw [hF]
  exact if_pos hc
theorem sh_way (v : List Nat) : SeqAt.shaped (.tuple (wayD v)) = true := ThD.shaped ((thT (n := 59)).mpr fun x hx => by
  obtain ⟨i, _, rfl⟩ := List.mem_map.mp hx
  exact ⟨rfl, by simp [PyData.depth]⟩)
theorem put_ok {S : List NestedKey} (num : Int) : ∀ (n : Nat) (v : List Nat) (m : Nat) (d : D), v.length < n → v.length ≤ 500 → ThD m d → LfD d → PathD d v →
    ∃ d', rcT vfC S n 0 [d, .tuple (wayD v), memD (.tuple [.int 78, .int num])] = some d' ∧ ThD (m + 3) d'
  | 0, v, m, d, h, _, _, _, _ => absurd h (Nat.not_lt_zero _)
  | n + 1, v, m, d, hn, h5, ht, hl, hp => by
    have key : ∃ d', B_law_put_at vfC S (rcT vfC S n 0) [.va d, .va (.tuple (wayD v)), .va (memD (.tuple [.int 78, .int num])), .no, .no] = some (.rt d') ∧ ThD (m + 3) d' := by
      unfold B_law_put_at
      have ce : cT1 asB (c2 eqD (cV 1) (cTup cNil)) [.va d, .va (.tuple (wayD v)), .va (memD (.tuple [.int 78, .int num])), .no, .no] = some (decide ((wayD v).length = 0)) := eT (e2 (d := .tuple (wayD v)) (e := .tuple []) rfl (eTup rfl (by simp)) (eq_nilT (sh_way v))) rfl
      cases v with
      | nil =>
        obtain ⟨d', h, t⟩ := other_ok ht hl (num / 4096)
        refine ⟨d', s_ifT ce (seq_rt (r_ret (d := d') ?_ rfl)), t⟩
        exact eClo (n := num) rfl (d := d) rfl ht.1 (eC (ds := [d, .int (num / 4096)]) (eArgs (eCons rfl (eCons (e2 rfl rfl (fdiv_int (by decide))) rfl)) rfl) h)
      | cons i v =>
        obtain ⟨ds, rfl, x, hx, hpx⟩ : ∃ ds, d = .tuple ds ∧ ∃ x, ds[i]? = some x ∧ PathD x v := by
          cases d with
          | tuple ds => exact ⟨ds, rfl, hp⟩
          | _ => exact hp.elim
        obtain ⟨k, rfl⟩ : ∃ k, m = k + 1 := by
          cases m with
          | zero => have := ht.2; simp [PyData.depth] at this
          | succ k => exact ⟨k, rfl⟩
        have hmem := List.mem_of_getElem? hx
        have hlen := hl.len
        simp only [List.length_cons] at hn h5
        obtain ⟨d', h, t⟩ := put_ok (S := S) num n v k x (by omega) (by omega) (thT.mp ht x hmem) (hl.sub x hmem) hpx
        have hc1 := cut_len ds none (some (i : Int))
        have hc2 := cut_len ds (some ((i : Int) + 1)) none
        have htail : cutL (wayD (i :: v)) (some 1) none = wayD v := by
          rw [cut_drop _ 1 (by decide) (by simp [wayD]; omega)]; rfl
        refine ⟨.tuple (cutL ds none (some (i : Int)) ++ [d'] ++ cutL ds (some ((i : Int) + 1)) none), s_ifF ce (s_next ?_), ?_⟩
        · refine s_set (d := .int (i : Nat)) (e2 (d := .tuple (wayD (i :: v))) (e := .int 0) rfl rfl (L2.atI_nat (xs := wayD (i :: v)) (j := 0) rfl)) ?_
          refine s_set (d := d') (eC (ds := [x, .tuple (wayD v), memD (.tuple [.int 78, .int num])]) (eArgs (eCons (e2 (d := .tuple ds) (e := .int (i : Nat)) rfl rfl (L2.atI_nat hx)) (eCons (eSl (d := .tuple (wayD (i :: v))) rfl (ePt rfl) rfl (by show some (PyData.tuple _) = _; rw [htail])) (eCons rfl rfl))) rfl) h) ?_
          exact r_ret (e2 (d := .tuple (cutL ds none (some (i : Int)) ++ [d'])) (e := .tuple (cutL ds (some ((i : Int) + 1)) none)) (e2 (d := .tuple (cutL ds none (some (i : Int)))) (e := .tuple [d']) (eSl (d := .tuple ds) rfl rfl (ePt rfl) rfl) (eTup (eCons rfl rfl) (by simp)) (add_tup (by simp; omega))) (eSl (d := .tuple ds) rfl (ePt (e2 rfl rfl rfl)) rfl rfl) (add_tup (by simp; omega))) rfl
        · refine (thT (n := k + 3)).mpr fun y hy => ?_
          rcases List.mem_append.mp hy with hy | hy
          · rcases List.mem_append.mp hy with hy | hy
            · exact (thT.mp ht y (cut_mem hy)).mono (by omega)
            · rw [List.mem_singleton.mp hy]; exact t
          · exact (thT.mp ht y (cut_mem hy)).mono (by omega)
    obtain ⟨d', h, t⟩ := key
    exact ⟨d', run_rt h, t⟩
theorem spoilt_ok {S : List NestedKey} {d : D} {num deep : Int} {m : Nat} (hm : m < 19) (ht : ThD m d) (hl : LfD d) (hN : lenW 19 d ≤ 20000) : ∃ d', F_law_spoilt vfC S [d, .int num, .int deep] = some d' ∧ ThD (m + 3) d' := by
  obtain ⟨ws, h1, h2, h3, h4⟩ := places_ok (S := S) 19 m d [] (by omega) (by simp; omega) ht hl hN
  obtain ⟨x, hx, e⟩ := atI_mem (xs := ws) (i := num % (ws.length : Nat)) (Int.emod_nonneg _ (by omega)) (Int.emod_lt_of_pos _ (by omega))
  obtain ⟨v, rfl, hp, hv⟩ := h4 x hx
  obtain ⟨d', h, t⟩ := put_ok (S := S) num 20 v m d (by omega) (by omega) ht hl hp
  refine ⟨d', ?_, t⟩
  rw [F_law_spoilt_def]
  apply run_rt
  show B_law_spoilt vfC S [.va d, .va (.int num), .va (.int deep), .no, .no] = _
  unfold B_law_spoilt
  refine s_set (d := .list ws) (eC (ds := [d, .tuple []]) (eArgs (eCons rfl (eCons (eTup rfl (by simp)) rfl)) rfl) h1) ?_
  refine s_set (d := .tuple (wayD v)) (e2 (d := .list ws) (e := .int (num % (ws.length : Nat))) rfl (e2 (d := .int num) (e := .int (ws.length : Nat)) rfl (eC (ds := [.list ws]) (eCons rfl rfl) rfl) (mod_int (by omega))) e) ?_
  exact r_ret (d := d') (ePutL (n := num) rfl (d1 := d) rfl (d2 := .tuple (wayD v)) rfl h t.1) rfl
/-! ### one turn of law k39 -/
theorem once_ok {d : D} {ns : List Int} (hs : Scr d ns) : ∃ K : List NestedKey, K.length ≤ 109601 ∧ ∀ S : List NestedKey, (∀ k ∈ K, k ∈ S) → S.length ≤ 1000000 → F_law_once vfC S [d] = some (.bool true) := by
  obtain ⟨n, hn, n0, n1⟩ := mixed_ok hs (k := 0) (by decide) (by decide)
  obtain ⟨m, hm, m0, m1⟩ := mixed_ok hs (k := 1) (by decide) (by decide)
  obtain ⟨k, hk, k0, k1⟩ := mixed_ok hs (k := 2) (by decide) (by decide)
  obtain ⟨r, hr, r0, r1⟩ := mixed_ok hs (k := 3) (by decide) (by decide)
  obtain ⟨p, hp, ok, hl⟩ := law_play_ok n0 m0 m1
  obtain ⟨who, ew⟩ := bI_of (t := k % 2) (by omega) (by omega)
  refine ⟨keysP p, keys_len ok (by omega), fun S hsub hS => ?_⟩
  have hi : InS S p := (ins_keys p).mono hsub
  have hlen := ok.len
  have hv := law_value_ok hS 20 p ok hi (by omega)
  obtain ⟨M, eM⟩ : ∃ M, M = sgI who * valP p := ⟨_, rfl⟩
  obtain ⟨L, eLd⟩ : ∃ L, L = M + k / 2 % 7 - 4 := ⟨_, rfl⟩
  have hp1 := paper_ok hS ok hi (by omega) who L
  have hp2 := paper_ok hS ok hi (by omega) who M
  rw [← eM] at hp1 hp2
  rw [if_neg (by omega)] at hp2
  have hpos : ∀ t, ThD 59 t → rcI vfC S 20 1 [plD p, .int (bI who), .int L, t] = some (.bool (isP who 10 p L t)) := fun t ht => is_paper_ok 10 p L t ok (by omega) ht
  have hlaw : ∀ t, ThD 59 t → rcQ vfC S 20 1 [plD p, .int (bI who), .int L, t] = some (.bool (isP who 10 p L t)) := fun t ht => law_is_paper_ok 10 p L t ok (by omega) ht
  rw [F_law_once_def]
  apply run_rt
  show B_law_once vfC S [.va d, .no, .no, .no, .no, .no, .no, .no] = _
  unfold B_law_once
  refine s_set (eC (ds := [d, .int 2]) (eArgs (eCons rfl (eCons rfl rfl)) rfl) hk) ?_
  refine s_set (eC (ds := [.int n, .int m]) (eArgs (eCons (eC (eArgs (eCons rfl (eCons rfl rfl)) rfl) hn) (eCons (eC (eArgs (eCons rfl (eCons rfl rfl)) rfl) hm) rfl)) rfl) hp) ?_
  refine s_set (d := .int (bI who)) (e2 (d := .int k) (e := .int 2) rfl rfl ((mod_int (by decide)).trans (by rw [ew]))) ?_
  refine s_set (d := .int M) (e2 (d := .int (valP p)) (e := .int (1 - 2 * bI who)) (eC (ds := [plD p, memD (.int 0)]) (eArgs (eCons rfl (eCons rfl rfl)) rfl) hv) (e2 rfl (e2 rfl rfl (mul_int (.inl (by decide)))) rfl) (mul1_ok.trans (by rw [eM, Int.mul_comm]; rfl))) ?_
  refine s_set (d := .int L) (e2 (d := .int (M + k / 2 % 7)) (e := .int 4) (e2 rfl (e2 (d := .int (k / 2)) (e := .int 7) (e2 rfl rfl (fdiv_int (by decide))) rfl (mod_int (by decide))) rfl) rfl (by rw [eLd]; rfl)) ?_
  -- the thing, and what the first rows say of it
  obtain ⟨E, eE⟩ : ∃ E : D → Sl → Ev, E = fun t x => [.va d, .va (.int k), .va (plD p), .va (.int (bI who)), .va (.int M), .va (.int L), .va t, x] := ⟨_, rfl⟩
  have fin : ∀ t, ThD 59 t → (cSeq (cAsg (cCall (rcI vfC S 20 1) (cArgs 4 (cCons (cV 2) (cCons (cV 3) (cCons (cV 5) (cCons (cV 6) cNil)))))) (gV 7))
      (cRet (cAndV (c1 (isiD "bool") (cV 7)) (c2 eqD (cV 7) (cCall (rcQ vfC S 20 1) (cArgs 4 (cCons (cV 2) (cCons (cV 3) (cCons (cV 5) (cCons (cV 6) cNil)))))))))) (E t .no) = some (.rt (.bool true)) := fun t ht => by
    rw [eE]
    refine s_set (eC (ds := [plD p, .int (bI who), .int L, t]) (eArgs (eCons rfl (eCons rfl (eCons rfl (eCons rfl rfl)))) rfl) (hpos t ht)) ?_
    exact r_ret (andV_T (e1 (d := .bool (isP who 10 p L t)) rfl (by simp [isiD])) (e2 (d := .bool (isP who 10 p L t)) rfl (eC (ds := [plD p, .int (bI who), .int L, t]) (eArgs (eCons rfl (eCons rfl (eCons rfl (eCons rfl rfl)))) rfl) (hlaw t ht)) (eq_self rfl))) rfl
  have spo : ∀ K, cSeq (cIfS (cT1 asB (c2 eqD (c2 modD (c2 fdivD (cV 1) (cC (.int 16))) (cC (.int 2))) (cC (.int 1)))) (cAsg (cCall (F_law_spoilt vfC S) (cArgs 3 (cCons (cV 6) (cCons (cCall F_law_mixed (cArgs 2 (cCons (cV 0) (cCons (cC (.int 3)) cNil)))) (cCons (c2 modD (c2 fdivD (cV 1) (cC (.int 32))) (cC (.int 5))) cNil))))) (gV 6)) cNext)
      (cSeq (cAsg (cCall (rcI vfC S 20 1) (cArgs 4 (cCons (cV 2) (cCons (cV 3) (cCons (cV 5) (cCons (cV 6) cNil)))))) (gV 7))
      (cRet (cAndV (c1 (isiD "bool") (cV 7)) (c2 eqD (cV 7) (cCall (rcQ vfC S 20 1) (cArgs 4 (cCons (cV 2) (cCons (cV 3) (cCons (cV 5) (cCons (cV 6) cNil))))))))))  (E (papD who 20 p K) .no) = some (.rt (.bool true)) := fun K => by
    have ht := pap_th2 who 20 p K ok
    have hc : cT1 asB (c2 eqD (c2 modD (c2 fdivD (cV 1) (cC (.int 16))) (cC (.int 2))) (cC (.int 1))) (E (papD who 20 p K) .no) = some (decide (k / 16 % 2 = 1)) := by
      rw [eE]
      exact eT (e2 (d := .int (k / 16 % 2)) (e2 (d := .int (k / 16)) (e2 rfl rfl (fdiv_int (by decide))) rfl (mod_int (by decide))) rfl (eq_int _ _)) rfl
    by_cases z : k / 16 % 2 = 1
    · rw [decide_eq_true z] at hc
      obtain ⟨t', h, ht'⟩ := spoilt_ok (S := S) (num := r) (deep := k / 32 % 5) (by omega) ht (pap_lf who 20 p K ok) (Nat.le_trans (pap_len who 20 19 p K ok) (Nat.le_trans (bW_le _ (by omega)) (by decide)))
      refine s_ifT hc ?_
      have hset : cAsg (cCall (F_law_spoilt vfC S) (cArgs 3 (cCons (cV 6) (cCons (cCall F_law_mixed (cArgs 2 (cCons (cV 0) (cCons (cC (.int 3)) cNil)))) (cCons (c2 modD (c2 fdivD (cV 1) (cC (.int 32))) (cC (.int 5))) cNil))))) (gV 6) (E (papD who 20 p K) .no) = some (.nx (E t' .no)) := by
        rw [eE]
        exact set_nx (eC (ds := [papD who 20 p K, .int r, .int (k / 32 % 5)]) (eArgs (eCons rfl (eCons (eC (ds := [d, .int 3]) (eArgs (eCons rfl (eCons rfl rfl)) rfl) hr) (eCons (e2 (d := .int (k / 32)) (e := .int 5) (e2 rfl rfl (fdiv_int (by decide))) rfl (mod_int (by decide))) rfl))) rfl) h)
      exact s_nx hset (fin t' (ht'.mono (by omega)))
    · rw [decide_eq_false z] at hc
      exact s_ifF hc (s_next (fin _ (ht.mono (by omega))))
  by_cases z : M < L
  · rw [if_pos z] at hp1
    refine s_set (eC (ds := [plD p, .int (bI who), .int L]) (eArgs (eCons rfl (eCons rfl (eCons rfl rfl))) rfl) hp1) ?_
    refine s_ifF (eT (e2 (d := .bool true) (e := .bool true) (e2 rfl rfl rfl) (e2 (d := .int L) (e := .int M) rfl rfl (by show some (PyData.bool (decide (M < L))) = _; rw [decide_eq_true z])) (ne_self rfl)) rfl) (s_next ?_)
    refine s_ifF (and_F (eT (e2 rfl rfl rfl) rfl)) (s_next ?_)
    refine s_ifT (eT (e2 rfl rfl rfl) rfl) ?_
    have hset : cAsg (cCall (F_paper vfC S) (cArgs 3 (cCons (cV 2) (cCons (cV 3) (cCons (cV 4) cNil))))) (gV 6) (E .none .no) = some (.nx (E (papD who 20 p M) .no)) := by
      rw [eE]
      exact set_nx (eC (ds := [plD p, .int (bI who), .int M]) (eArgs (eCons rfl (eCons rfl (eCons rfl rfl))) rfl) hp2)
    have h := s_nx hset (spo M)
    rw [eE] at h
    exact h
  · rw [if_neg z] at hp1
    have his := pap_is (who := who) 10 20 p L ok (by omega) (by omega) (by omega)
    obtain ⟨ds, eds⟩ := pap_tup who 20 p L
    have hn : isD (papD who 20 p L) .none = some (.bool false) := by rw [eds]; rfl
    have hn' : isntD (papD who 20 p L) .none = some (.bool true) := by rw [eds]; rfl
    have hq := hlaw (papD who 20 p L) ((pap_th who 20 p L).mono (by omega))
    rw [his] at hq
    refine s_set (eC (ds := [plD p, .int (bI who), .int L]) (eArgs (eCons rfl (eCons rfl (eCons rfl rfl))) rfl) hp1) ?_
    refine s_ifF (eT (e2 (d := .bool false) (e := .bool false) (e2 rfl rfl hn) (e2 (d := .int L) (e := .int M) rfl rfl (by show some (PyData.bool (decide (M < L))) = _; rw [decide_eq_false z])) (ne_self rfl)) rfl) (s_next ?_)
    refine s_ifF (and_T (eT (e2 rfl rfl hn') rfl) (not_1 (b := true) (eT (eC (ds := [plD p, .int (bI who), .int L, papD who 20 p L]) (eArgs (eCons rfl (eCons rfl (eCons rfl (eCons rfl rfl)))) rfl) hq) rfl))) (s_next ?_)
    refine s_ifF (eT (e2 rfl rfl hn) rfl) (s_next ?_)
    have := spo L
    rw [eE] at this
    exact this
/-! ### law k39 -/
theorem scr_it {d : D} {ns : List Int} (hs : Scr d ns) {x1 x2 : Sl} : cItS (cV 0) [.va d, x1, x2] = some (ns.map PyData.int) := by
  rcases hs with rfl | rfl
  · show (scrI _).bind _ = _
    rw [scrI_of]; rfl
  · rfl
def nsT (ns : List Int) (i : Nat) : List Int := ns.map (fun n : Int => n + 104729 * (i : Int)) ++ [(i : Int)]
theorem law_all {d : D} {ns : List Int} (hs : Scr d ns) (hn : ns.length ≤ 63) : ∃ S, F_law vfC S [d] = some (.bool true) := by
  have on : ∀ i : Nat, ∃ K : List NestedKey, K.length ≤ 109601 ∧ ∀ S : List NestedKey, (∀ k ∈ K, k ∈ S) → S.length ≤ 1000000 → F_law_once vfC S [.list ((nsT ns i).map PyData.int)] = some (.bool true) := fun i => once_ok (.inr rfl)
  obtain ⟨Kf, hK⟩ : ∃ Kf : Nat → List NestedKey, ∀ i, (Kf i).length ≤ 109601 ∧ ∀ S : List NestedKey, (∀ k ∈ Kf i, k ∈ S) → S.length ≤ 1000000 → F_law_once vfC S [.list ((nsT ns i).map PyData.int)] = some (.bool true) := ⟨fun i => Classical.choose (on i), fun i => Classical.choose_spec (on i)⟩
  obtain ⟨S, eS⟩ : ∃ S, S = (List.range 8).flatMap Kf := ⟨_, rfl⟩
  have hS : S.length ≤ 1000000 := by
    rw [eS, List.length_flatMap]
    have := sum_bd (f := fun i => (Kf i).length) (B := 109601) (List.range 8) fun i _ => (hK i).1
    rw [List.length_range] at this
    exact Nat.le_trans this (by decide)
  have one : ∀ i, i < 8 → F_law_once vfC S [.list ((nsT ns i).map PyData.int)] = some (.bool true) := fun i hi => (hK i).2 S (fun k hk => by rw [eS]; exact List.mem_flatMap.mpr ⟨i, List.mem_range.mpr hi, hk⟩) hS
  refine ⟨S, ?_⟩
  rw [F_law_def]
  apply run_rt
  show B_law vfC S [.va d, .no, .no] = _
  unfold B_law
  obtain ⟨Bd, eB⟩ : ∃ Bd : SF, Bd = (cIfS (cNot (cT1 asB (cCall (F_law_once vfC S) (cArgs 1 (cCons (c2 addD (cL (cLc (cItS (cV 0)) [2] (gV 2) cYes (c2 addD (cV 2) (c2 mulD (cC (.int 104729)) (cV 1))))) (cL (chk 1000 (cCons (cV 1) cNil)))) cNil))))) (cRet (cC (.bool false))) cNext) := ⟨_, rfl⟩
  have loop : ∀ (l : List Nat), (∀ i ∈ l, i < 8) → ∀ x1, ∃ y1, forL (gV 1) Bd (l.map fun i => PyData.int (i : Nat)) [.va d, x1, .no] = some (.nx [.va d, y1, .no]) := by
    intro l
    induction l with
    | nil => exact fun _ x1 => ⟨x1, rfl⟩
    | cons i l ih =>
      intro hl x1
      obtain ⟨y1, hy⟩ := ih (fun j hj => hl j (List.mem_cons_of_mem _ hj)) (.va (.int (i : Nat)))
      refine ⟨y1, ?_⟩
      rw [List.map_cons]
      refine (forL_cons (ρ1 := [.va d, .va (.int (i : Nat)), .no]) (ρ2 := [.va d, .va (.int (i : Nat)), .no]) rfl ?_).trans hy
      rw [eB]
      have hlc : cL (cLc (cItS (cV 0)) [2] (gV 2) cYes (c2 addD (cV 2) (c2 mulD (cC (.int 104729)) (cV 1)))) [.va d, .va (.int (i : Nat)), .no] = some (.list (ns.map fun n => PyData.int (n + 104729 * (i : Nat)))) :=
        eLcA (enc := PyData.int) (scr_it hs) (by omega) fun n hn => ⟨[.va d, .va (.int (i : Nat)), .va (.int n)], rfl, e2 (d := .int n) (e := .int (104729 * (i : Nat))) rfl (e2 rfl rfl (mul_int (.inl (by decide)))) rfl⟩
      have hadd : c2 addD (cL (cLc (cItS (cV 0)) [2] (gV 2) cYes (c2 addD (cV 2) (c2 mulD (cC (.int 104729)) (cV 1))))) (cL (chk 1000 (cCons (cV 1) cNil))) [.va d, .va (.int (i : Nat)), .no] = some (.list ((nsT ns i).map PyData.int)) := by
        refine e2 (d := .list (ns.map fun n => PyData.int (n + 104729 * (i : Nat)))) (e := .list [.int (i : Nat)]) hlc (eL (eChk (eCons rfl rfl) (by simp))) ?_
        rw [add_list (by simp; omega)]
        unfold nsT
        rw [List.map_append, List.map_map]
        rfl
      have hc : cNot (cT1 asB (cCall (F_law_once vfC S) (cArgs 1 (cCons (c2 addD (cL (cLc (cItS (cV 0)) [2] (gV 2) cYes (c2 addD (cV 2) (c2 mulD (cC (.int 104729)) (cV 1))))) (cL (chk 1000 (cCons (cV 1) cNil)))) cNil)))) [.va d, .va (.int (i : Nat)), .no] = some (!true) :=
        not_1 (eT (eC (eArgs (eCons hadd rfl) rfl) (one i (hl i List.mem_cons_self))) rfl)
      rw [ifS_F hc]
      rfl
  obtain ⟨y1, hy⟩ := loop (List.range 8) (fun i hi => List.mem_range.mp hi) .no
  rw [eB] at hy
  exact s_for (ds := (List.range 8).map fun i => PyData.int (i : Nat)) rfl hy (r_ret rfl rfl)
theorem law_true (ns : List Int) (h : ns.length ≤ 63) : ∃ S, F_law vfC S [scrD ns] = some (.bool true) := law_all (.inl rfl) h
theorem law_true2 (ns : List Int) (h : ns.length ≤ 63) : ∃ S, F_law vfC S [.list (ns.map PyData.int)] = some (.bool true) := law_all (.inr rfl) h
end LW
namespace LW
open PySem PySem.Spec PyProof.Rows L2 G
abbrev s_V_init : Stmt := clsS 28 0
theorem sc_V_init : FnScope ["self"] ["self"] (defScope s_V_init) := ⟨rfl, rfl, rfl, by decide +kernel, rfl, by decide +kernel, by decide +kernel⟩
theorem all_mk {l : PySem.W.OpenLaw} {w : World} {K : PySem.W.Frag} {h : Heap} {mg : Str → Option Value} {fa c TP : Addr} (X : K.In h) (G : h.Ns mainGlobals mg) (hfa : mg "law" = some (.ref fa)) (own : ∀ f, mg "_law_spoilt" = some (.ref f) → LamX.OwnTab K f h)
    {C fi : Addr} (iV : PySem.W.nsIn K mainGlobals "Values" = some (some (.ref C)))
    (v1 : PySem.W.plainGet K C Str.empty = true)
    (v2 : PySem.W.hasDictIn K C = true)
    (v3 : PySem.W.plainOver K C = true)
    (v4 : PySem.W.findIn K (.ref C) "__setattr__" = some (some (.builtin "object.__setattr__")))
    (v5 : PySem.W.findIn K (.ref C) "known" = some none)
    (v6 : PySem.W.makesIn K C = true)
    (v7 : PySem.W.findIn K (.ref C) "__init__" = some (some (.ref fi)))
    (v8 : PySem.W.isFn K (.ref fi) = true)
    (v9 : PySem.W.keepIn K (.ref C) = true)
    {od0 an0 : Option Addr} {sl0 : Array (Option Value)} {oc0 kV0 dc0 pm0 cd0 ct0 : Value} (l0 : K.lookup fi = some ⟨oc0, od0, .func (PySem.W.fnOf "__init__" "Values.__init__" (defArgs s_V_init) (defBody s_V_init) (defScope s_V_init) .none kV0 dc0 pm0 an0 cd0 ct0), sl0⟩) (c0 : PySem.W.codeIn K cd0 "Values.__init__" = true) (k0 : PySem.W.keepIn K (.ref fi) = true)
    {f1 : Addr} {od1 an1 : Option Addr} {sl1 : Array (Option Value)} {oc1 kV1 dc1 pm1 cd1 ct1 : Value} (a1 : PySem.W.nsIn K mainGlobals "is_whole" = some (some (.ref f1))) (l1 : K.lookup f1 = some ⟨oc1, od1, .func (PySem.W.fnOf "is_whole" "is_whole" (defArgs s_is_whole) (defBody s_is_whole) (defScope s_is_whole) .none kV1 dc1 pm1 an1 cd1 ct1), sl1⟩) (c1 : PySem.W.codeIn K cd1 "is_whole" = true) (k1 : PySem.W.keepIn K (.ref f1) = true)
    {f2 : Addr} {od2 an2 : Option Addr} {sl2 : Array (Option Value)} {oc2 kV2 dc2 pm2 cd2 ct2 : Value} (a2 : PySem.W.nsIn K mainGlobals "is_card" = some (some (.ref f2))) (l2 : K.lookup f2 = some ⟨oc2, od2, .func (PySem.W.fnOf "is_card" "is_card" (defArgs s_is_card) (defBody s_is_card) (defScope s_is_card) .none kV2 dc2 pm2 an2 cd2 ct2), sl2⟩) (c2 : PySem.W.codeIn K cd2 "is_card" = true) (k2 : PySem.W.keepIn K (.ref f2) = true)
    {f3 : Addr} {od3 an3 : Option Addr} {sl3 : Array (Option Value)} {oc3 kV3 dc3 pm3 cd3 ct3 : Value} (a3 : PySem.W.nsIn K mainGlobals "worth" = some (some (.ref f3))) (l3 : K.lookup f3 = some ⟨oc3, od3, .func (PySem.W.fnOf "worth" "worth" (defArgs s_worth) (defBody s_worth) (defScope s_worth) .none kV3 dc3 pm3 an3 cd3 ct3), sl3⟩) (c3 : PySem.W.codeIn K cd3 "worth" = true) (k3 : PySem.W.keepIn K (.ref f3) = true)
    {f4 : Addr} {od4 an4 : Option Addr} {sl4 : Array (Option Value)} {oc4 kV4 dc4 pm4 cd4 ct4 : Value} (a4 : PySem.W.nsIn K mainGlobals "is_run" = some (some (.ref f4))) (l4 : K.lookup f4 = some ⟨oc4, od4, .func (PySem.W.fnOf "is_run" "is_run" (defArgs s_is_run) (defBody s_is_run) (defScope s_is_run) .none kV4 dc4 pm4 an4 cd4 ct4), sl4⟩) (c4 : PySem.W.codeIn K cd4 "is_run" = true) (k4 : PySem.W.keepIn K (.ref f4) = true)
    {f5 : Addr} {od5 an5 : Option Addr} {sl5 : Array (Option Value)} {oc5 kV5 dc5 pm5 cd5 ct5 : Value} (a5 : PySem.W.nsIn K mainGlobals "sum_of" = some (some (.ref f5))) (l5 : K.lookup f5 = some ⟨oc5, od5, .func (PySem.W.fnOf "sum_of" "sum_of" (defArgs s_sum_of) (defBody s_sum_of) (defScope s_sum_of) .none kV5 dc5 pm5 an5 cd5 ct5), sl5⟩) (c5 : PySem.W.codeIn K cd5 "sum_of" = true) (k5 : PySem.W.keepIn K (.ref f5) = true)
    {f6 : Addr} {od6 an6 : Option Addr} {sl6 : Array (Option Value)} {oc6 kV6 dc6 pm6 cd6 ct6 : Value} (a6 : PySem.W.nsIn K mainGlobals "alike_behind" = some (some (.ref f6))) (l6 : K.lookup f6 = some ⟨oc6, od6, .func (PySem.W.fnOf "alike_behind" "alike_behind" (defArgs s_alike_behind) (defBody s_alike_behind) (defScope s_alike_behind) .none kV6 dc6 pm6 an6 cd6 ct6), sl6⟩) (c6 : PySem.W.codeIn K cd6 "alike_behind" = true) (k6 : PySem.W.keepIn K (.ref f6) = true)
    {f7 : Addr} {od7 an7 : Option Addr} {sl7 : Array (Option Value)} {oc7 kV7 dc7 pm7 cd7 ct7 : Value} (a7 : PySem.W.nsIn K mainGlobals "run_behind" = some (some (.ref f7))) (l7 : K.lookup f7 = some ⟨oc7, od7, .func (PySem.W.fnOf "run_behind" "run_behind" (defArgs s_run_behind) (defBody s_run_behind) (defScope s_run_behind) .none kV7 dc7 pm7 an7 cd7 ct7), sl7⟩) (c7 : PySem.W.codeIn K cd7 "run_behind" = true) (k7 : PySem.W.keepIn K (.ref f7) = true)
    {f8 : Addr} {od8 an8 : Option Addr} {sl8 : Array (Option Value)} {oc8 kV8 dc8 pm8 cd8 ct8 : Value} (a8 : PySem.W.nsIn K mainGlobals "gain" = some (some (.ref f8))) (l8 : K.lookup f8 = some ⟨oc8, od8, .func (PySem.W.fnOf "gain" "gain" (defArgs s_gain) (defBody s_gain) (defScope s_gain) .none kV8 dc8 pm8 an8 cd8 ct8), sl8⟩) (c8 : PySem.W.codeIn K cd8 "gain" = true) (k8 : PySem.W.keepIn K (.ref f8) = true)
    {f9 : Addr} {od9 an9 : Option Addr} {sl9 : Array (Option Value)} {oc9 kV9 dc9 pm9 cd9 ct9 : Value} (a9 : PySem.W.nsIn K mainGlobals "begin" = some (some (.ref f9))) (l9 : K.lookup f9 = some ⟨oc9, od9, .func (PySem.W.fnOf "begin" "begin" (defArgs s_begin) (defBody s_begin) (defScope s_begin) .none kV9 dc9 pm9 an9 cd9 ct9), sl9⟩) (c9 : PySem.W.codeIn K cd9 "begin" = true) (k9 : PySem.W.keepIn K (.ref f9) = true)
    {f10 : Addr} {od10 an10 : Option Addr} {sl10 : Array (Option Value)} {oc10 kV10 dc10 pm10 cd10 ct10 : Value} (a10 : PySem.W.nsIn K mainGlobals "can_be" = some (some (.ref f10))) (l10 : K.lookup f10 = some ⟨oc10, od10, .func (PySem.W.fnOf "can_be" "can_be" (defArgs s_can_be) (defBody s_can_be) (defScope s_can_be) .none kV10 dc10 pm10 an10 cd10 ct10), sl10⟩) (c10 : PySem.W.codeIn K cd10 "can_be" = true) (k10 : PySem.W.keepIn K (.ref f10) = true)
    {f11 : Addr} {od11 an11 : Option Addr} {sl11 : Array (Option Value)} {oc11 kV11 dc11 pm11 cd11 ct11 : Value} (a11 : PySem.W.nsIn K mainGlobals "can" = some (some (.ref f11))) (l11 : K.lookup f11 = some ⟨oc11, od11, .func (PySem.W.fnOf "can" "can" (defArgs s_can) (defBody s_can) (defScope s_can) .none kV11 dc11 pm11 an11 cd11 ct11), sl11⟩) (c11 : PySem.W.codeIn K cd11 "can" = true) (k11 : PySem.W.keepIn K (.ref f11) = true)
    {f12 : Addr} {od12 an12 : Option Addr} {sl12 : Array (Option Value)} {oc12 kV12 dc12 pm12 cd12 ct12 : Value} (a12 : PySem.W.nsIn K mainGlobals "without" = some (some (.ref f12))) (l12 : K.lookup f12 = some ⟨oc12, od12, .func (PySem.W.fnOf "without" "without" (defArgs s_without) (defBody s_without) (defScope s_without) .none kV12 dc12 pm12 an12 cd12 ct12), sl12⟩) (c12 : PySem.W.codeIn K cd12 "without" = true) (k12 : PySem.W.keepIn K (.ref f12) = true)
    {f13 : Addr} {od13 an13 : Option Addr} {sl13 : Array (Option Value)} {oc13 kV13 dc13 pm13 cd13 ct13 : Value} (a13 : PySem.W.nsIn K mainGlobals "lay" = some (some (.ref f13))) (l13 : K.lookup f13 = some ⟨oc13, od13, .func (PySem.W.fnOf "lay" "lay" (defArgs s_lay) (defBody s_lay) (defScope s_lay) .none kV13 dc13 pm13 an13 cd13 ct13), sl13⟩) (c13 : PySem.W.codeIn K cd13 "lay" = true) (k13 : PySem.W.keepIn K (.ref f13) = true)
    {f14 : Addr} {od14 an14 : Option Addr} {sl14 : Array (Option Value)} {oc14 kV14 dc14 pm14 cd14 ct14 : Value} (a14 : PySem.W.nsIn K mainGlobals "lead" = some (some (.ref f14))) (l14 : K.lookup f14 = some ⟨oc14, od14, .func (PySem.W.fnOf "lead" "lead" (defArgs s_lead) (defBody s_lead) (defScope s_lead) .none kV14 dc14 pm14 an14 cd14 ct14), sl14⟩) (c14 : PySem.W.codeIn K cd14 "lead" = true) (k14 : PySem.W.keepIn K (.ref f14) = true)
    {f15 : Addr} {od15 an15 : Option Addr} {sl15 : Array (Option Value)} {oc15 kV15 dc15 pm15 cd15 ct15 : Value} (a15 : PySem.W.findIn K (.ref C) "of_play" = some (some (.ref f15))) (n15 : PySem.W.isFn K (.ref f15) = true) (l15 : K.lookup f15 = some ⟨oc15, od15, .func (PySem.W.fnOf "of_play" "Values.of_play" (defArgs s_Values_of_play) (defBody s_Values_of_play) (defScope s_Values_of_play) .none kV15 dc15 pm15 an15 cd15 ct15), sl15⟩) (c15 : PySem.W.codeIn K cd15 "Values.of_play" = true) (k15 : PySem.W.keepIn K (.ref f15) = true)
    {f16 : Addr} {od16 an16 : Option Addr} {sl16 : Array (Option Value)} {oc16 kV16 dc16 pm16 cd16 ct16 : Value} (a16 : PySem.W.findIn K (.ref C) "of_card" = some (some (.ref f16))) (n16 : PySem.W.isFn K (.ref f16) = true) (l16 : K.lookup f16 = some ⟨oc16, od16, .func (PySem.W.fnOf "of_card" "Values.of_card" (defArgs s_Values_of_card) (defBody s_Values_of_card) (defScope s_Values_of_card) .none kV16 dc16 pm16 an16 cd16 ct16), sl16⟩) (c16 : PySem.W.codeIn K cd16 "Values.of_card" = true) (k16 : PySem.W.keepIn K (.ref f16) = true)
    {f17 : Addr} {od17 an17 : Option Addr} {sl17 : Array (Option Value)} {oc17 kV17 dc17 pm17 cd17 ct17 : Value} (a17 : PySem.W.nsIn K mainGlobals "gets" = some (some (.ref f17))) (l17 : K.lookup f17 = some ⟨oc17, od17, .func (PySem.W.fnOf "gets" "gets" (defArgs s_gets) (defBody s_gets) (defScope s_gets) .none kV17 dc17 pm17 an17 cd17 ct17), sl17⟩) (c17 : PySem.W.codeIn K cd17 "gets" = true) (k17 : PySem.W.keepIn K (.ref f17) = true)
    {f18 : Addr} {od18 an18 : Option Addr} {sl18 : Array (Option Value)} {oc18 kV18 dc18 pm18 cd18 ct18 : Value} (a18 : PySem.W.nsIn K mainGlobals "paper_from" = some (some (.ref f18))) (l18 : K.lookup f18 = some ⟨oc18, od18, .func (PySem.W.fnOf "paper_from" "paper_from" (defArgs s_paper_from) (defBody s_paper_from) (defScope s_paper_from) .none kV18 dc18 pm18 an18 cd18 ct18), sl18⟩) (c18 : PySem.W.codeIn K cd18 "paper_from" = true) (k18 : PySem.W.keepIn K (.ref f18) = true)
    {f19 : Addr} {od19 an19 : Option Addr} {sl19 : Array (Option Value)} {oc19 kV19 dc19 pm19 cd19 ct19 : Value} (a19 : PySem.W.nsIn K mainGlobals "paper" = some (some (.ref f19))) (l19 : K.lookup f19 = some ⟨oc19, od19, .func (PySem.W.fnOf "paper" "paper" (defArgs s_paper) (defBody s_paper) (defScope s_paper) .none kV19 dc19 pm19 an19 cd19 ct19), sl19⟩) (c19 : PySem.W.codeIn K cd19 "paper" = true) (k19 : PySem.W.keepIn K (.ref f19) = true)
    {f20 : Addr} {od20 an20 : Option Addr} {sl20 : Array (Option Value)} {oc20 kV20 dc20 pm20 cd20 ct20 : Value} (a20 : PySem.W.nsIn K mainGlobals "is_pair" = some (some (.ref f20))) (l20 : K.lookup f20 = some ⟨oc20, od20, .func (PySem.W.fnOf "is_pair" "is_pair" (defArgs s_is_pair) (defBody s_is_pair) (defScope s_is_pair) .none kV20 dc20 pm20 an20 cd20 ct20), sl20⟩) (c20 : PySem.W.codeIn K cd20 "is_pair" = true) (k20 : PySem.W.keepIn K (.ref f20) = true)
    {f21 : Addr} {od21 an21 : Option Addr} {sl21 : Array (Option Value)} {oc21 kV21 dc21 pm21 cd21 ct21 : Value} (a21 : PySem.W.nsIn K mainGlobals "is_paper" = some (some (.ref f21))) (l21 : K.lookup f21 = some ⟨oc21, od21, .func (PySem.W.fnOf "is_paper" "is_paper" (defArgs s_is_paper) (defBody s_is_paper) (defScope s_is_paper) .none kV21 dc21 pm21 an21 cd21 ct21), sl21⟩) (c21 : PySem.W.codeIn K cd21 "is_paper" = true) (k21 : PySem.W.keepIn K (.ref f21) = true)
    {f22 : Addr} {od22 an22 : Option Addr} {sl22 : Array (Option Value)} {oc22 kV22 dc22 pm22 cd22 ct22 : Value} (a22 : PySem.W.nsIn K mainGlobals "_law_cell_at" = some (some (.ref f22))) (l22 : K.lookup f22 = some ⟨oc22, od22, .func (PySem.W.fnOf "_law_cell_at" "_law_cell_at" (defArgs s_law_cell_at) (defBody s_law_cell_at) (defScope s_law_cell_at) .none kV22 dc22 pm22 an22 cd22 ct22), sl22⟩) (c22 : PySem.W.codeIn K cd22 "_law_cell_at" = true) (k22 : PySem.W.keepIn K (.ref f22) = true)
    {f23 : Addr} {od23 an23 : Option Addr} {sl23 : Array (Option Value)} {oc23 kV23 dc23 pm23 cd23 ct23 : Value} (a23 : PySem.W.nsIn K mainGlobals "_law_mixed" = some (some (.ref f23))) (l23 : K.lookup f23 = some ⟨oc23, od23, .func (PySem.W.fnOf "_law_mixed" "_law_mixed" (defArgs s_law_mixed) (defBody s_law_mixed) (defScope s_law_mixed) .none kV23 dc23 pm23 an23 cd23 ct23), sl23⟩) (c23 : PySem.W.codeIn K cd23 "_law_mixed" = true) (k23 : PySem.W.keepIn K (.ref f23) = true)
    {f24 : Addr} {od24 an24 : Option Addr} {sl24 : Array (Option Value)} {oc24 kV24 dc24 pm24 cd24 ct24 : Value} (a24 : PySem.W.nsIn K mainGlobals "_law_drawn" = some (some (.ref f24))) (l24 : K.lookup f24 = some ⟨oc24, od24, .func (PySem.W.fnOf "_law_drawn" "_law_drawn" (defArgs s_law_drawn) (defBody s_law_drawn) (defScope s_law_drawn) .none kV24 dc24 pm24 an24 cd24 ct24), sl24⟩) (c24 : PySem.W.codeIn K cd24 "_law_drawn" = true) (k24 : PySem.W.keepIn K (.ref f24) = true)
    {f25 : Addr} {od25 an25 : Option Addr} {sl25 : Array (Option Value)} {oc25 kV25 dc25 pm25 cd25 ct25 : Value} (a25 : PySem.W.nsIn K mainGlobals "_law_deal" = some (some (.ref f25))) (l25 : K.lookup f25 = some ⟨oc25, od25, .func (PySem.W.fnOf "_law_deal" "_law_deal" (defArgs s_law_deal) (defBody s_law_deal) (defScope s_law_deal) .none kV25 dc25 pm25 an25 cd25 ct25), sl25⟩) (c25 : PySem.W.codeIn K cd25 "_law_deal" = true) (k25 : PySem.W.keepIn K (.ref f25) = true)
    {f26 : Addr} {od26 an26 : Option Addr} {sl26 : Array (Option Value)} {oc26 kV26 dc26 pm26 cd26 ct26 : Value} (a26 : PySem.W.nsIn K mainGlobals "_law_sum" = some (some (.ref f26))) (l26 : K.lookup f26 = some ⟨oc26, od26, .func (PySem.W.fnOf "_law_sum" "_law_sum" (defArgs s_law_sum) (defBody s_law_sum) (defScope s_law_sum) .none kV26 dc26 pm26 an26 cd26 ct26), sl26⟩) (c26 : PySem.W.codeIn K cd26 "_law_sum" = true) (k26 : PySem.W.keepIn K (.ref f26) = true)
    {f27 : Addr} {od27 an27 : Option Addr} {sl27 : Array (Option Value)} {oc27 kV27 dc27 pm27 cd27 ct27 : Value} (a27 : PySem.W.nsIn K mainGlobals "_law_gain" = some (some (.ref f27))) (l27 : K.lookup f27 = some ⟨oc27, od27, .func (PySem.W.fnOf "_law_gain" "_law_gain" (defArgs s_law_gain) (defBody s_law_gain) (defScope s_law_gain) .none kV27 dc27 pm27 an27 cd27 ct27), sl27⟩) (c27 : PySem.W.codeIn K cd27 "_law_gain" = true) (k27 : PySem.W.keepIn K (.ref f27) = true)
    {f28 : Addr} {od28 an28 : Option Addr} {sl28 : Array (Option Value)} {oc28 kV28 dc28 pm28 cd28 ct28 : Value} (a28 : PySem.W.nsIn K mainGlobals "_law_can" = some (some (.ref f28))) (l28 : K.lookup f28 = some ⟨oc28, od28, .func (PySem.W.fnOf "_law_can" "_law_can" (defArgs s_law_can) (defBody s_law_can) (defScope s_law_can) .none kV28 dc28 pm28 an28 cd28 ct28), sl28⟩) (c28 : PySem.W.codeIn K cd28 "_law_can" = true) (k28 : PySem.W.keepIn K (.ref f28) = true)
    {f29 : Addr} {od29 an29 : Option Addr} {sl29 : Array (Option Value)} {oc29 kV29 dc29 pm29 cd29 ct29 : Value} (a29 : PySem.W.nsIn K mainGlobals "_law_lay" = some (some (.ref f29))) (l29 : K.lookup f29 = some ⟨oc29, od29, .func (PySem.W.fnOf "_law_lay" "_law_lay" (defArgs s_law_lay) (defBody s_law_lay) (defScope s_law_lay) .none kV29 dc29 pm29 an29 cd29 ct29), sl29⟩) (c29 : PySem.W.codeIn K cd29 "_law_lay" = true) (k29 : PySem.W.keepIn K (.ref f29) = true)
    {f30 : Addr} {od30 an30 : Option Addr} {sl30 : Array (Option Value)} {oc30 kV30 dc30 pm30 cd30 ct30 : Value} (a30 : PySem.W.nsIn K mainGlobals "_law_begin" = some (some (.ref f30))) (l30 : K.lookup f30 = some ⟨oc30, od30, .func (PySem.W.fnOf "_law_begin" "_law_begin" (defArgs s_law_begin) (defBody s_law_begin) (defScope s_law_begin) .none kV30 dc30 pm30 an30 cd30 ct30), sl30⟩) (c30 : PySem.W.codeIn K cd30 "_law_begin" = true) (k30 : PySem.W.keepIn K (.ref f30) = true)
    {f31 : Addr} {od31 an31 : Option Addr} {sl31 : Array (Option Value)} {oc31 kV31 dc31 pm31 cd31 ct31 : Value} (a31 : PySem.W.nsIn K mainGlobals "_law_value" = some (some (.ref f31))) (l31 : K.lookup f31 = some ⟨oc31, od31, .func (PySem.W.fnOf "_law_value" "_law_value" (defArgs s_law_value) (defBody s_law_value) (defScope s_law_value) .none kV31 dc31 pm31 an31 cd31 ct31), sl31⟩) (c31 : PySem.W.codeIn K cd31 "_law_value" = true) (k31 : PySem.W.keepIn K (.ref f31) = true)
    {f32 : Addr} {od32 an32 : Option Addr} {sl32 : Array (Option Value)} {oc32 kV32 dc32 pm32 cd32 ct32 : Value} (a32 : PySem.W.nsIn K mainGlobals "_law_play" = some (some (.ref f32))) (l32 : K.lookup f32 = some ⟨oc32, od32, .func (PySem.W.fnOf "_law_play" "_law_play" (defArgs s_law_play) (defBody s_law_play) (defScope s_law_play) .none kV32 dc32 pm32 an32 cd32 ct32), sl32⟩) (c32 : PySem.W.codeIn K cd32 "_law_play" = true) (k32 : PySem.W.keepIn K (.ref f32) = true)
    {f33 : Addr} {od33 an33 : Option Addr} {sl33 : Array (Option Value)} {oc33 kV33 dc33 pm33 cd33 ct33 : Value} (a33 : PySem.W.nsIn K mainGlobals "_law_is_card" = some (some (.ref f33))) (l33 : K.lookup f33 = some ⟨oc33, od33, .func (PySem.W.fnOf "_law_is_card" "_law_is_card" (defArgs s_law_is_card) (defBody s_law_is_card) (defScope s_law_is_card) .none kV33 dc33 pm33 an33 cd33 ct33), sl33⟩) (c33 : PySem.W.codeIn K cd33 "_law_is_card" = true) (k33 : PySem.W.keepIn K (.ref f33) = true)
    {f34 : Addr} {od34 an34 : Option Addr} {sl34 : Array (Option Value)} {oc34 kV34 dc34 pm34 cd34 ct34 : Value} (a34 : PySem.W.nsIn K mainGlobals "_law_is_pair" = some (some (.ref f34))) (l34 : K.lookup f34 = some ⟨oc34, od34, .func (PySem.W.fnOf "_law_is_pair" "_law_is_pair" (defArgs s_law_is_pair) (defBody s_law_is_pair) (defScope s_law_is_pair) .none kV34 dc34 pm34 an34 cd34 ct34), sl34⟩) (c34 : PySem.W.codeIn K cd34 "_law_is_pair" = true) (k34 : PySem.W.keepIn K (.ref f34) = true)
    {f35 : Addr} {od35 an35 : Option Addr} {sl35 : Array (Option Value)} {oc35 kV35 dc35 pm35 cd35 ct35 : Value} (a35 : PySem.W.nsIn K mainGlobals "_law_is_paper" = some (some (.ref f35))) (l35 : K.lookup f35 = some ⟨oc35, od35, .func (PySem.W.fnOf "_law_is_paper" "_law_is_paper" (defArgs s_law_is_paper) (defBody s_law_is_paper) (defScope s_law_is_paper) .none kV35 dc35 pm35 an35 cd35 ct35), sl35⟩) (c35 : PySem.W.codeIn K cd35 "_law_is_paper" = true) (k35 : PySem.W.keepIn K (.ref f35) = true)
    {f36 : Addr} {od36 an36 : Option Addr} {sl36 : Array (Option Value)} {oc36 kV36 dc36 pm36 cd36 ct36 : Value} (a36 : PySem.W.nsIn K mainGlobals "_law_places_in" = some (some (.ref f36))) (l36 : K.lookup f36 = some ⟨oc36, od36, .func (PySem.W.fnOf "_law_places_in" "_law_places_in" (defArgs s_law_places_in) (defBody s_law_places_in) (defScope s_law_places_in) .none kV36 dc36 pm36 an36 cd36 ct36), sl36⟩) (c36 : PySem.W.codeIn K cd36 "_law_places_in" = true) (k36 : PySem.W.keepIn K (.ref f36) = true)
    {f37 : Addr} {od37 an37 : Option Addr} {sl37 : Array (Option Value)} {oc37 kV37 dc37 pm37 cd37 ct37 : Value} (a37 : PySem.W.nsIn K mainGlobals "_law_otherwise" = some (some (.ref f37))) (l37 : K.lookup f37 = some ⟨oc37, od37, .func (PySem.W.fnOf "_law_otherwise" "_law_otherwise" (defArgs s_law_otherwise) (defBody s_law_otherwise) (defScope s_law_otherwise) .none kV37 dc37 pm37 an37 cd37 ct37), sl37⟩) (c37 : PySem.W.codeIn K cd37 "_law_otherwise" = true) (k37 : PySem.W.keepIn K (.ref f37) = true)
    {f38 : Addr} {od38 an38 : Option Addr} {sl38 : Array (Option Value)} {oc38 kV38 dc38 pm38 cd38 ct38 : Value} (a38 : PySem.W.nsIn K mainGlobals "_law_put_at" = some (some (.ref f38))) (l38 : K.lookup f38 = some ⟨oc38, od38, .func (PySem.W.fnOf "_law_put_at" "_law_put_at" (defArgs s_law_put_at) (defBody s_law_put_at) (defScope s_law_put_at) .none kV38 dc38 pm38 an38 cd38 ct38), sl38⟩) (c38 : PySem.W.codeIn K cd38 "_law_put_at" = true) (k38 : PySem.W.keepIn K (.ref f38) = true)
    {f39 : Addr} {od39 an39 : Option Addr} {sl39 : Array (Option Value)} {oc39 kV39 dc39 pm39 ct39 : Value} (a39 : PySem.W.nsIn K mainGlobals "_law_spoilt" = some (some (.ref f39))) (l39 : K.lookup f39 = some ⟨oc39, od39, .func (PySem.W.fnOf "_law_spoilt" "_law_spoilt" (defArgs s_law_spoilt) (defBody s_law_spoilt) (defScope s_law_spoilt) .none kV39 dc39 pm39 an39 (.ref c) ct39), sl39⟩) (c39 : PySem.W.codeIn K (.ref c) "_law_spoilt" = true) (k39 : PySem.W.keepIn K (.ref f39) = true)
    {f40 : Addr} {od40 an40 : Option Addr} {sl40 : Array (Option Value)} {oc40 kV40 dc40 pm40 cd40 ct40 : Value} (a40 : PySem.W.nsIn K mainGlobals "_law_once" = some (some (.ref f40))) (l40 : K.lookup f40 = some ⟨oc40, od40, .func (PySem.W.fnOf "_law_once" "_law_once" (defArgs s_law_once) (defBody s_law_once) (defScope s_law_once) .none kV40 dc40 pm40 an40 cd40 ct40), sl40⟩) (c40 : PySem.W.codeIn K cd40 "_law_once" = true) (k40 : PySem.W.keepIn K (.ref f40) = true)
    {f41 : Addr} {od41 an41 : Option Addr} {sl41 : Array (Option Value)} {oc41 kV41 dc41 pm41 cd41 ct41 : Value} (a41 : PySem.W.nsIn K mainGlobals "law" = some (some (.ref f41))) (l41 : K.lookup f41 = some ⟨oc41, od41, .func (PySem.W.fnOf "law" "law" (defArgs s_law) (defBody s_law) (defScope s_law) .none kV41 dc41 pm41 an41 cd41 ct41), sl41⟩) (c41 : PySem.W.codeIn K cd41 "law" = true) (k41 : PySem.W.keepIn K (.ref f41) = true)
    {t_MOST_WORTH : Tok} (i_MOST_WORTH : PySem.W.nsIn K mainGlobals "MOST_WORTH" = some (some (.int 10 t_MOST_WORTH)))
    {t_LEAST_RUN : Tok} (i_LEAST_RUN : PySem.W.nsIn K mainGlobals "LEAST_RUN" = some (some (.int 3 t_LEAST_RUN)))
    {t_MOST : Tok} (i_MOST : PySem.W.nsIn K mainGlobals "MOST" = some (some (.int 31 t_MOST)))
    {t_FIFTEEN : Tok} (i_FIFTEEN : PySem.W.nsIn K mainGlobals "FIFTEEN" = some (some (.int 15 t_FIFTEEN)))
    {t_SUITS : Tok} (i_SUITS : PySem.W.nsIn K mainGlobals "SUITS" = some (some (.str "cdhs" t_SUITS)))
    {t_RANKS : Tok} (i_RANKS : PySem.W.nsIn K mainGlobals "RANKS" = some (some (.str "a23456789tjqk" t_RANKS)))
    {d_ALIKE : Addr} (i_ALIKE : PySem.W.nsIn K mainGlobals "ALIKE" = some (some (.ref d_ALIKE))) (j_ALIKE : KTab K d_ALIKE [(1, 0), (2, 2), (3, 6), (4, 12)])
    (z_len : PySem.W.nsIn K mainGlobals "len" = some none)
    (z_tuple : PySem.W.nsIn K mainGlobals "tuple" = some none)
    (z_list : PySem.W.nsIn K mainGlobals "list" = some none)
    (z_sum : PySem.W.nsIn K mainGlobals "sum" = some none)
    (z_max : PySem.W.nsIn K mainGlobals "max" = some none)
    (z_min : PySem.W.nsIn K mainGlobals "min" = some none)
    (z_all : PySem.W.nsIn K mainGlobals "all" = some none)
    (z_any : PySem.W.nsIn K mainGlobals "any" = some none)
    (z_abs : PySem.W.nsIn K mainGlobals "abs" = some none)
    (z_int : PySem.W.nsIn K mainGlobals "int" = some none)
    (z_bool : PySem.W.nsIn K mainGlobals "bool" = some none)
    (z_str : PySem.W.nsIn K mainGlobals "str" = some none)
    (z_set : PySem.W.nsIn K mainGlobals "set" = some none)
    (z_sorted : PySem.W.nsIn K mainGlobals "sorted" = some none)
    (z_range : PySem.W.nsIn K mainGlobals "range" = some none)
    (z_enumerate : PySem.W.nsIn K mainGlobals "enumerate" = some none)
    (z_zip : PySem.W.nsIn K mainGlobals "zip" = some none)
    (z_isinstance : PySem.W.nsIn K mainGlobals "isinstance" = some none)
    (z_repr : PySem.W.nsIn K mainGlobals "repr" = some none)
    (z_ValueError : PySem.W.nsIn K mainGlobals "ValueError" = some none)
    {ee : Value} {ed : Option Addr} {vs : Array Value} {es : Array (Option Value)} (lc : K.lookup c = some ⟨ee, ed, .fields vs, es⟩) (lv11 : vs[11]? = some (.ref TP)) (nTP : K.lookup TP = none) (hcd : PySem.W.codeHdIn K c TP = true) :
    LamX.LawAtS l w K CX0 55 63 "_law_script" mg fa h := by
  have e := hfa.symm.trans (PySem.W.mg_of X G a41)
  cases e
  have hB : Bt mg := ⟨PySem.W.mg_none_of X G z_len, PySem.W.mg_none_of X G z_tuple, PySem.W.mg_none_of X G z_list, PySem.W.mg_none_of X G z_sum, PySem.W.mg_none_of X G z_max, PySem.W.mg_none_of X G z_min, PySem.W.mg_none_of X G z_all, PySem.W.mg_none_of X G z_any, PySem.W.mg_none_of X G z_abs, PySem.W.mg_none_of X G z_int, PySem.W.mg_none_of X G z_bool, PySem.W.mg_none_of X G z_str, PySem.W.mg_none_of X G z_set, PySem.W.mg_none_of X G z_sorted, PySem.W.mg_none_of X G z_range, PySem.W.mg_none_of X G z_enumerate, PySem.W.mg_none_of X G z_zip, PySem.W.mg_none_of X G z_isinstance, PySem.W.mg_none_of X G z_repr, PySem.W.mg_none_of X G z_ValueError⟩
  have g_MOST_WORTH : ∃ t, mg "MOST_WORTH" = some (.int 10 t) := ⟨_, PySem.W.mg_of X G i_MOST_WORTH⟩
  have g_LEAST_RUN : ∃ t, mg "LEAST_RUN" = some (.int 3 t) := ⟨_, PySem.W.mg_of X G i_LEAST_RUN⟩
  have g_MOST : ∃ t, mg "MOST" = some (.int 31 t) := ⟨_, PySem.W.mg_of X G i_MOST⟩
  have g_FIFTEEN : ∃ t, mg "FIFTEEN" = some (.int 15 t) := ⟨_, PySem.W.mg_of X G i_FIFTEEN⟩
  have g_SUITS : ∃ t, mg "SUITS" = some (.str "cdhs" t) := ⟨_, PySem.W.mg_of X G i_SUITS⟩
  have g_RANKS : ∃ t, mg "RANKS" = some (.str "a23456789tjqk" t) := ⟨_, PySem.W.mg_of X G i_RANKS⟩
  have g_ALIKE : ∃ a, mg "ALIKE" = some (.ref a) ∧ KTab K a [(1, 0), (2, 2), (3, 6), (4, 12)] := ⟨_, PySem.W.mg_of X G i_ALIKE, j_ALIKE⟩
  have Fn0 := fun_mk (st := s_V_init) l0 c0 k0
  have Fn1 := fun_mk (st := s_is_whole) l1 c1 k1
  have Fn2 := fun_mk (st := s_is_card) l2 c2 k2
  have Fn3 := fun_mk (st := s_worth) l3 c3 k3
  have Fn4 := fun_mk (st := s_is_run) l4 c4 k4
  have Fn5 := fun_mk (st := s_sum_of) l5 c5 k5
  have Fn6 := fun_mk (st := s_alike_behind) l6 c6 k6
  have Fn7 := fun_mk (st := s_run_behind) l7 c7 k7
  have Fn8 := fun_mk (st := s_gain) l8 c8 k8
  have Fn9 := fun_mk (st := s_begin) l9 c9 k9
  have Fn10 := fun_mk (st := s_can_be) l10 c10 k10
  have Fn11 := fun_mk (st := s_can) l11 c11 k11
  have Fn12 := fun_mk (st := s_without) l12 c12 k12
  have Fn13 := fun_mk (st := s_lay) l13 c13 k13
  have Fn14 := fun_mk (st := s_lead) l14 c14 k14
  have Fn15 := fun_mk (st := s_Values_of_play) l15 c15 k15
  have Fn16 := fun_mk (st := s_Values_of_card) l16 c16 k16
  have Fn17 := fun_mk (st := s_gets) l17 c17 k17
  have Fn18 := fun_mk (st := s_paper_from) l18 c18 k18
  have Fn19 := fun_mk (st := s_paper) l19 c19 k19
  have Fn20 := fun_mk (st := s_is_pair) l20 c20 k20
  have Fn21 := fun_mk (st := s_is_paper) l21 c21 k21
  have Fn22 := fun_mk (st := s_law_cell_at) l22 c22 k22
  have Fn23 := fun_mk (st := s_law_mixed) l23 c23 k23
  have Fn24 := fun_mk (st := s_law_drawn) l24 c24 k24
  have Fn25 := fun_mk (st := s_law_deal) l25 c25 k25
  have Fn26 := fun_mk (st := s_law_sum) l26 c26 k26
  have Fn27 := fun_mk (st := s_law_gain) l27 c27 k27
  have Fn28 := fun_mk (st := s_law_can) l28 c28 k28
  have Fn29 := fun_mk (st := s_law_lay) l29 c29 k29
  have Fn30 := fun_mk (st := s_law_begin) l30 c30 k30
  have Fn31 := fun_mk (st := s_law_value) l31 c31 k31
  have Fn32 := fun_mk (st := s_law_play) l32 c32 k32
  have Fn33 := fun_mk (st := s_law_is_card) l33 c33 k33
  have Fn34 := fun_mk (st := s_law_is_pair) l34 c34 k34
  have Fn35 := fun_mk (st := s_law_is_paper) l35 c35 k35
  have Fn36 := fun_mk (st := s_law_places_in) l36 c36 k36
  have Fn37 := fun_mk (st := s_law_otherwise) l37 c37 k37
  have Fn38 := fun_mk (st := s_law_put_at) l38 c38 k38
  have Fn39 := fun_mk (st := s_law_spoilt) l39 c39 k39
  have Fn40 := fun_mk (st := s_law_once) l40 c40 k40
  have Fn41 := fun_mk (st := s_law) l41 c41 k41
  have cl_V : L2.Cls K C := ⟨v1, v2, v3, v4⟩
  have na_V : L2.NoAttr K C "known" := v5
  have mk_V : L2.Mk K C fi := ⟨v6, v7, v8, v9⟩
  have m_V : mg "Values" = some (.ref C) := PySem.W.mg_of X G iV
  have b_init := Fn0.binds (ps := ["self"]) fun _ _ _ _ _ _ us hl => match us, hl with | [_], _ => rfl
  have hI : IsT K TP := ⟨f39, c, oc39, od39, _, sl39, ee, ed, vs, es, a39, l39, rfl, lc, lv11⟩
  refine lawAt39 (own _ (PySem.W.mg_of X G a39) c TP _ _ _ _ _ _ l39 rfl rfl lc lv11) nTP (PySem.W.codeHd_of_K X hcd) hI (fd := PySem.W.fnOf "law" "law" (defArgs s_law) (defBody s_law) (defScope s_law) .none kV41 dc41 pm41 an41 cd41 ct41) (F := F_law vfC) (vf := vfC) (C := C) (fun s v => .of_eq rfl) (fun ns hl => law_true ns hl) (fun ns hl => law_true2 ns hl) fun base _ _ tb => fnok_ex fun S => ?_
  have F_init : FnOk l.prog w K mg base CX0 1 fi _ ["self"] (spInit l.prog w C) := init_ok Fn0 sc_V_init rfl (.inl rfl) cl_V na_V (fun _ => rfl)
  have C_is_whole : Cal l.prog w K mg base (memV l.prog w vfC C S) "is_whole" 3 3 F_is_whole := cal_of Fn1 (PySem.W.mg_of X G a1) (Fn1.binds (ps := ["thing", "low", "high"]) fun _ _ _ _ _ _ us hl => match us, hl with | [_, _, _], _ => rfl) (ok_is_whole memV_ok memV_w hB cl_V na_V mk_V F_init b_init m_V Fn1)
  have C_is_card : Cal l.prog w K mg base (memV l.prog w vfC C S) "is_card" 4 1 F_is_card := cal_of Fn2 (PySem.W.mg_of X G a2) (Fn2.binds (ps := ["thing"]) fun _ _ _ _ _ _ us hl => match us, hl with | [_], _ => rfl) (ok_is_card memV_ok memV_w hB cl_V na_V mk_V F_init b_init m_V g_SUITS g_RANKS C_is_whole Fn2)
  have C_worth : Cal l.prog w K mg base (memV l.prog w vfC C S) "worth" 3 1 F_worth := cal_of Fn3 (PySem.W.mg_of X G a3) (Fn3.binds (ps := ["card"]) fun _ _ _ _ _ _ us hl => match us, hl with | [_], _ => rfl) (ok_worth memV_ok memV_w hB cl_V na_V mk_V F_init b_init m_V g_MOST_WORTH Fn3)
  have C_is_run : Cal l.prog w K mg base (memV l.prog w vfC C S) "is_run" 3 1 F_is_run := cal_of Fn4 (PySem.W.mg_of X G a4) (Fn4.binds (ps := ["cards"]) fun _ _ _ _ _ _ us hl => match us, hl with | [_], _ => rfl) (ok_is_run memV_ok memV_w hB cl_V na_V mk_V F_init b_init m_V Fn4)
  have C_sum_of : Cal l.prog w K mg base (memV l.prog w vfC C S) "sum_of" 4 1 F_sum_of := cal_of Fn5 (PySem.W.mg_of X G a5) (Fn5.binds (ps := ["pile"]) fun _ _ _ _ _ _ us hl => match us, hl with | [_], _ => rfl) (ok_sum_of memV_ok memV_w hB cl_V na_V mk_V F_init b_init m_V C_worth Fn5)
  have C_alike_behind : Cal l.prog w K mg base (memV l.prog w vfC C S) "alike_behind" 3 1 F_alike_behind := cal_of Fn6 (PySem.W.mg_of X G a6) (Fn6.binds (ps := ["pile"]) fun _ _ _ _ _ _ us hl => match us, hl with | [_], _ => rfl) (ok_alike_behind memV_ok memV_w hB cl_V na_V mk_V F_init b_init m_V Fn6)
  have C_run_behind : Cal l.prog w K mg base (memV l.prog w vfC C S) "run_behind" 4 1 F_run_behind := cal_of Fn7 (PySem.W.mg_of X G a7) (Fn7.binds (ps := ["pile"]) fun _ _ _ _ _ _ us hl => match us, hl with | [_], _ => rfl) (ok_run_behind memV_ok memV_w hB cl_V na_V mk_V F_init b_init m_V g_LEAST_RUN C_is_run Fn7)
  have C_gain : Cal l.prog w K mg base (memV l.prog w vfC C S) "gain" 5 1 F_gain := cal_of Fn8 (PySem.W.mg_of X G a8) (Fn8.binds (ps := ["pile"]) fun _ _ _ _ _ _ us hl => match us, hl with | [_], _ => rfl) (ok_gain memV_ok memV_w hB cl_V na_V mk_V F_init b_init m_V g_MOST g_FIFTEEN g_ALIKE C_sum_of C_alike_behind C_run_behind Fn8)
  have C_begin : Cal l.prog w K mg base (memV l.prog w vfC C S) "begin" 3 3 F_begin := cal_of Fn9 (PySem.W.mg_of X G a9) (Fn9.binds (ps := ["one", "other", "turn"]) fun _ _ _ _ _ _ us hl => match us, hl with | [_, _, _], _ => rfl) (ok_begin memV_ok memV_w hB cl_V na_V mk_V F_init b_init m_V Fn9)
  have C_can_be : Cal l.prog w K mg base (memV l.prog w vfC C S) "can_be" 5 2 F_can_be := cal_of Fn10 (PySem.W.mg_of X G a10) (Fn10.binds (ps := ["hand", "pile"]) fun _ _ _ _ _ _ us hl => match us, hl with | [_, _], _ => rfl) (ok_can_be memV_ok memV_w hB cl_V na_V mk_V F_init b_init m_V g_MOST C_sum_of C_worth Fn10)
  have C_can : Cal l.prog w K mg base (memV l.prog w vfC C S) "can" 6 1 F_can := cal_of Fn11 (PySem.W.mg_of X G a11) (Fn11.binds (ps := ["play"]) fun _ _ _ _ _ _ us hl => match us, hl with | [_], _ => rfl) (ok_can memV_ok memV_w hB cl_V na_V mk_V F_init b_init m_V C_can_be Fn11)
  have C_without : Cal l.prog w K mg base (memV l.prog w vfC C S) "without" 3 3 F_without := cal_of Fn12 (PySem.W.mg_of X G a12) (Fn12.binds (ps := ["hands", "who", "card"]) fun _ _ _ _ _ _ us hl => match us, hl with | [_, _, _], _ => rfl) (ok_without memV_ok memV_w hB cl_V na_V mk_V F_init b_init m_V Fn12)
  have C_lay : Cal l.prog w K mg base (memV l.prog w vfC C S) "lay" 7 2 F_lay := cal_of Fn13 (PySem.W.mg_of X G a13) (Fn13.binds (ps := ["play", "card"]) fun _ _ _ _ _ _ us hl => match us, hl with | [_, _], _ => rfl) (ok_lay memV_ok memV_w hB cl_V na_V mk_V F_init b_init m_V g_MOST C_can C_without C_gain C_can_be C_sum_of C_begin Fn13)
  have C_lead : Cal l.prog w K mg base (memV l.prog w vfC C S) "lead" 3 2 F_lead := cal_of Fn14 (PySem.W.mg_of X G a14) (Fn14.binds (ps := ["had", "who"]) fun _ _ _ _ _ _ us hl => match us, hl with | [_, _], _ => rfl) (ok_lead memV_ok memV_w hB cl_V na_V mk_V F_init b_init m_V Fn14)
  obtain ⟨C_Values_of_play, C_Values_of_card⟩ := rc_ok6 (P := l.prog) (w := w) (base := base) (vf := vfC) (S := S) memV_ok memV_w hB cl_V na_V mk_V F_init b_init m_V C_can C_lay C_lead Fn15 (Fn15.binds (ps := ["self", "play"]) fun _ _ _ _ _ _ us hl => match us, hl with | [_, _], _ => rfl) ⟨a15, n15, k15⟩ Fn16 (Fn16.binds (ps := ["self", "play", "card"]) fun _ _ _ _ _ _ us hl => match us, hl with | [_, _, _], _ => rfl) ⟨a16, n16, k16⟩ 20
  have C_gets : Cal l.prog w K mg base (memV l.prog w vfC C S) "gets" 30 3 (F_gets vfC S) := cal_of Fn17 (PySem.W.mg_of X G a17) (Fn17.binds (ps := ["values", "play", "who"]) fun _ _ _ _ _ _ us hl => match us, hl with | [_, _, _], _ => rfl) (ok_gets memV_ok memV_w hB cl_V na_V mk_V F_init b_init m_V C_Values_of_play Fn17)
  have C_paper_from := rc_ok0 (P := l.prog) (w := w) (base := base) (vf := vfC) (S := S) memV_ok memV_w hB cl_V na_V mk_V F_init b_init m_V C_can C_lay C_lead C_gets Fn18 (Fn18.binds (ps := ["values", "play", "who", "least"]) fun _ _ _ _ _ _ us hl => match us, hl with | [_, _, _, _], _ => rfl) (PySem.W.mg_of X G a18) 20
  have C_paper : Cal l.prog w K mg base (memV l.prog w vfC C S) "paper" 53 3 (F_paper vfC S) := cal_of Fn19 (PySem.W.mg_of X G a19) (Fn19.binds (ps := ["play", "who", "least"]) fun _ _ _ _ _ _ us hl => match us, hl with | [_, _, _], _ => rfl) (ok_paper memV_ok memV_w hB cl_V na_V mk_V F_init b_init m_V C_gets C_paper_from Fn19)
  obtain ⟨C_is_pair, C_is_paper⟩ := rc_ok1 (P := l.prog) (w := w) (base := base) (vf := vfC) (S := S) memV_ok memV_w hB cl_V na_V mk_V F_init b_init m_V C_is_card C_lay C_lead C_can Fn20 (Fn20.binds (ps := ["play", "who", "least", "card", "thing"]) fun _ _ _ _ _ _ us hl => match us, hl with | [_, _, _, _, _], _ => rfl) (PySem.W.mg_of X G a20) Fn21 (Fn21.binds (ps := ["play", "who", "least", "thing"]) fun _ _ _ _ _ _ us hl => match us, hl with | [_, _, _, _], _ => rfl) (PySem.W.mg_of X G a21) 20
  have C_law_cell_at : Cal l.prog w K mg base (memV l.prog w vfC C S) "_law_cell_at" 3 2 F_law_cell_at := cal_of Fn22 (PySem.W.mg_of X G a22) (Fn22.binds (ps := ["_law_script", "_law_k"]) fun _ _ _ _ _ _ us hl => match us, hl with | [_, _], _ => rfl) (ok_law_cell_at memV_ok memV_w hB cl_V na_V mk_V F_init b_init m_V Fn22)
  have C_law_mixed : Cal l.prog w K mg base (memV l.prog w vfC C S) "_law_mixed" 4 2 F_law_mixed := cal_of Fn23 (PySem.W.mg_of X G a23) (Fn23.binds (ps := ["_law_script", "_law_k"]) fun _ _ _ _ _ _ us hl => match us, hl with | [_, _], _ => rfl) (ok_law_mixed memV_ok memV_w hB cl_V na_V mk_V F_init b_init m_V C_law_cell_at Fn23)
  have C_law_drawn : Cal l.prog w K mg base (memV l.prog w vfC C S) "_law_drawn" 3 2 F_law_drawn := cal_of Fn24 (PySem.W.mg_of X G a24) (Fn24.binds (ps := ["_law_number", "_law_k"]) fun _ _ _ _ _ _ us hl => match us, hl with | [_, _], _ => rfl) (ok_law_drawn memV_ok memV_w hB cl_V na_V mk_V F_init b_init m_V Fn24)
  have C_law_deal : Cal l.prog w K mg base (memV l.prog w vfC C S) "_law_deal" 4 2 F_law_deal := cal_of Fn25 (PySem.W.mg_of X G a25) (Fn25.binds (ps := ["_law_number", "_law_many"]) fun _ _ _ _ _ _ us hl => match us, hl with | [_, _], _ => rfl) (ok_law_deal memV_ok memV_w hB cl_V na_V mk_V F_init b_init m_V C_law_drawn Fn25)
  have C_law_sum : Cal l.prog w K mg base (memV l.prog w vfC C S) "_law_sum" 3 1 F_law_sum := cal_of Fn26 (PySem.W.mg_of X G a26) (Fn26.binds (ps := ["_law_pile"]) fun _ _ _ _ _ _ us hl => match us, hl with | [_], _ => rfl) (ok_law_sum memV_ok memV_w hB cl_V na_V mk_V F_init b_init m_V Fn26)
  have C_law_gain : Cal l.prog w K mg base (memV l.prog w vfC C S) "_law_gain" 4 1 F_law_gain := cal_of Fn27 (PySem.W.mg_of X G a27) (Fn27.binds (ps := ["_law_pile"]) fun _ _ _ _ _ _ us hl => match us, hl with | [_], _ => rfl) (ok_law_gain memV_ok memV_w hB cl_V na_V mk_V F_init b_init m_V C_law_sum Fn27)
  have C_law_can : Cal l.prog w K mg base (memV l.prog w vfC C S) "_law_can" 4 1 F_law_can := cal_of Fn28 (PySem.W.mg_of X G a28) (Fn28.binds (ps := ["_law_play_here"]) fun _ _ _ _ _ _ us hl => match us, hl with | [_], _ => rfl) (ok_law_can memV_ok memV_w hB cl_V na_V mk_V F_init b_init m_V C_law_sum Fn28)
  have C_law_lay : Cal l.prog w K mg base (memV l.prog w vfC C S) "_law_lay" 5 2 F_law_lay := cal_of Fn29 (PySem.W.mg_of X G a29) (Fn29.binds (ps := ["_law_play_here", "_law_card"]) fun _ _ _ _ _ _ us hl => match us, hl with | [_, _], _ => rfl) (ok_law_lay memV_ok memV_w hB cl_V na_V mk_V F_init b_init m_V C_law_gain C_law_can C_law_sum Fn29)
  have C_law_begin : Cal l.prog w K mg base (memV l.prog w vfC C S) "_law_begin" 3 3 F_law_begin := cal_of Fn30 (PySem.W.mg_of X G a30) (Fn30.binds (ps := ["_law_one", "_law_other", "_law_turn"]) fun _ _ _ _ _ _ us hl => match us, hl with | [_, _, _], _ => rfl) (ok_law_begin memV_ok memV_w hB cl_V na_V mk_V F_init b_init m_V Fn30)
  have C_law_value := rc_ok2 (P := l.prog) (w := w) (base := base) (vf := vfC) (S := S) memV_ok memV_w hB cl_V na_V mk_V F_init b_init m_V C_law_can C_law_lay Fn31 (Fn31.binds (ps := ["_law_play_here", "_law_known"]) fun _ _ _ _ _ _ us hl => match us, hl with | [_, _], _ => rfl) (PySem.W.mg_of X G a31) 20
  have C_law_play : Cal l.prog w K mg base (memV l.prog w vfC C S) "_law_play" 6 2 F_law_play := cal_of Fn32 (PySem.W.mg_of X G a32) (Fn32.binds (ps := ["_law_number", "_law_deal_here"]) fun _ _ _ _ _ _ us hl => match us, hl with | [_, _], _ => rfl) (ok_law_play memV_ok memV_w hB cl_V na_V mk_V F_init b_init m_V C_law_deal C_law_begin C_law_can C_law_lay Fn32)
  have C_law_is_card : Cal l.prog w K mg base (memV l.prog w vfC C S) "_law_is_card" 3 1 F_law_is_card := cal_of Fn33 (PySem.W.mg_of X G a33) (Fn33.binds (ps := ["_law_thing"]) fun _ _ _ _ _ _ us hl => match us, hl with | [_], _ => rfl) (ok_law_is_card memV_ok memV_w hB cl_V na_V mk_V F_init b_init m_V Fn33)
  obtain ⟨C_law_is_pair, C_law_is_paper⟩ := rc_ok3 (P := l.prog) (w := w) (base := base) (vf := vfC) (S := S) memV_ok memV_w hB cl_V na_V mk_V F_init b_init m_V C_law_is_card C_law_can C_law_lay Fn34 (Fn34.binds (ps := ["_law_play_here", "_law_who", "_law_least", "_law_thing"]) fun _ _ _ _ _ _ us hl => match us, hl with | [_, _, _, _], _ => rfl) (PySem.W.mg_of X G a34) Fn35 (Fn35.binds (ps := ["_law_play_here", "_law_who", "_law_least", "_law_thing"]) fun _ _ _ _ _ _ us hl => match us, hl with | [_, _, _, _], _ => rfl) (PySem.W.mg_of X G a35) 20
  have C_law_places_in := rc_ok4 (P := l.prog) (w := w) (base := base) (vf := vfC) (S := S) memV_ok memV_w hB cl_V na_V mk_V F_init b_init m_V  Fn36 (Fn36.binds (ps := ["_law_bent_one", "_law_bent_way"]) fun _ _ _ _ _ _ us hl => match us, hl with | [_, _], _ => rfl) (PySem.W.mg_of X G a36) 20
  have C_law_otherwise : Cal l.prog w K mg base (memV l.prog w vfC C S) "_law_otherwise" 3 2 F_law_otherwise := cal_of Fn37 (PySem.W.mg_of X G a37) (Fn37.binds (ps := ["_law_bent_one", "_law_bent_number"]) fun _ _ _ _ _ _ us hl => match us, hl with | [_, _], _ => rfl) (ok_law_otherwise memV_ok memV_w hB cl_V na_V mk_V F_init b_init m_V Fn37)
  have C_law_put_at := rc_ok5 (P := l.prog) (w := w) (base := base) (vf := vfC) (S := S) memV_ok memV_w hB cl_V na_V mk_V F_init b_init m_V C_law_otherwise Fn38 (Fn38.binds (ps := ["_law_bent_one", "_law_bent_way", "_law_bent_by"]) fun _ _ _ _ _ _ us hl => match us, hl with | [_, _, _], _ => rfl) (PySem.W.mg_of X G a38) 20
  have C_law_spoilt : Cal l.prog w K mg base (memV l.prog w vfC C S) "_law_spoilt" 26 3 (F_law_spoilt vfC S) := cal_of Fn39 (PySem.W.mg_of X G a39) (Fn39.binds (ps := ["_law_thing", "_law_number", "_law_deep"]) fun _ _ _ _ _ _ us hl => match us, hl with | [_, _, _], _ => rfl) (ok_law_spoilt tb hI memV_ok memV_w hB cl_V na_V mk_V F_init b_init m_V C_law_places_in C_law_put_at l39 c39)
  have C_law_once : Cal l.prog w K mg base (memV l.prog w vfC C S) "_law_once" 54 1 (F_law_once vfC S) := cal_of Fn40 (PySem.W.mg_of X G a40) (Fn40.binds (ps := ["_law_script"]) fun _ _ _ _ _ _ us hl => match us, hl with | [_], _ => rfl) (ok_law_once memV_ok memV_w hB cl_V na_V mk_V F_init b_init m_V C_law_mixed C_law_play C_law_value C_paper C_law_is_paper C_law_spoilt C_is_paper Fn40)
  exact ok_law memV_ok memV_w hB cl_V na_V mk_V F_init b_init m_V C_law_once Fn41
end LW
open PySem PySem.W PyProof.Rows
set_option maxRecDepth 100000 in
set_option maxHeartbeats 0 in
theorem PySem.Challenge.cw_pegrows_k39_lists_anywhere_in_papers_holds : PySem.Challenge.rw_pegrows_k39_lists_anywhere_in_papers.Holds := by
  w_on; o_law; k_head; (case hw => w_witness2)
  k_fill
  refine G.walk_maker (nm := "_law_spoilt") (l := PySem.Challenge.rw_pegrows_k39_lists_anywhere_in_papers) (n := 63) (k := 55) (x := "_law_script") (CX := fun _ => L2.CX0) rfl (by decide) rfl ⟨rfl, by decide, by decide⟩ (by first | rfl | decide +kernel) (fun w h Y => (by first | exact PySem.W.kIn_of Y | exact PySem.W.km_in_of Y)) ?F (fun _ _ _ _ _ h => h)
  case F =>
    intro w mg fa h Y KX G hmg own
    refine' LW.all_mk KX G hmg own ?iV ?v1 ?v2 ?v3 ?v4 ?v5 ?v6 ?v7 ?v8 ?v9 ?l0 ?c0 ?k0 ?a1 ?l1 ?c1 ?k1 ?a2 ?l2 ?c2 ?k2 ?a3 ?l3 ?c3 ?k3 ?a4 ?l4 ?c4 ?k4 ?a5 ?l5 ?c5 ?k5 ?a6 ?l6 ?c6 ?k6 ?a7 ?l7 ?c7 ?k7 ?a8 ?l8 ?c8 ?k8 ?a9 ?l9 ?c9 ?k9 ?a10 ?l10 ?c10 ?k10 ?a11 ?l11 ?c11 ?k11 ?a12 ?l12 ?c12 ?k12 ?a13 ?l13 ?c13 ?k13 ?a14 ?l14 ?c14 ?k14 ?a15 ?n15 ?l15 ?c15 ?k15 ?a16 ?n16 ?l16 ?c16 ?k16 ?a17 ?l17 ?c17 ?k17 ?a18 ?l18 ?c18 ?k18 ?a19 ?l19 ?c19 ?k19 ?a20 ?l20 ?c20 ?k20 ?a21 ?l21 ?c21 ?k21 ?a22 ?l22 ?c22 ?k22 ?a23 ?l23 ?c23 ?k23 ?a24 ?l24 ?c24 ?k24 ?a25 ?l25 ?c25 ?k25 ?a26 ?l26 ?c26 ?k26 ?a27 ?l27 ?c27 ?k27 ?a28 ?l28 ?c28 ?k28 ?a29 ?l29 ?c29 ?k29 ?a30 ?l30 ?c30 ?k30 ?a31 ?l31 ?c31 ?k31 ?a32 ?l32 ?c32 ?k32 ?a33 ?l33 ?c33 ?k33 ?a34 ?l34 ?c34 ?k34 ?a35 ?l35 ?c35 ?k35 ?a36 ?l36 ?c36 ?k36 ?a37 ?l37 ?c37 ?k37 ?a38 ?l38 ?c38 ?k38 ?a39 ?l39 ?c39 ?k39 ?a40 ?l40 ?c40 ?k40 ?a41 ?l41 ?c41 ?k41 ?i_MOST_WORTH ?i_LEAST_RUN ?i_MOST ?i_FIFTEEN ?i_SUITS ?i_RANKS ?i_ALIKE ?j_ALIKE ?z_len ?z_tuple ?z_list ?z_sum ?z_max ?z_min ?z_all ?z_any ?z_abs ?z_int ?z_bool ?z_str ?z_set ?z_sorted ?z_range ?z_enumerate ?z_zip ?z_isinstance ?z_repr ?z_ValueError ?lc ?lv11 ?nTP ?hcd
    (case iV => k_is); (case v1 => k_is); (case v2 => k_is); (case v3 => k_is); (case v4 => k_is); (case v5 => k_is); (case v6 => k_is); (case v7 => k_is); (case v8 => k_is); (case v9 => k_is); (case l0 => k_is); (case c0 => k_is); (case k0 => k_is); (case a1 => k_is); (case l1 => k_is); (case c1 => k_is); (case k1 => k_is); (case a2 => k_is); (case l2 => k_is); (case c2 => k_is); (case k2 => k_is); (case a3 => k_is); (case l3 => k_is); (case c3 => k_is); (case k3 => k_is); (case a4 => k_is); (case l4 => k_is); (case c4 => k_is); (case k4 => k_is); (case a5 => k_is); (case l5 => k_is); (case c5 => k_is); (case k5 => k_is); (case a6 => k_is); (case l6 => k_is); (case c6 => k_is); (case k6 => k_is); (case a7 => k_is); (case l7 => k_is); (case c7 => k_is); (case k7 => k_is); (case a8 => k_is); (case l8 => k_is); (case c8 => k_is); (case k8 => k_is); (case a9 => k_is); (case l9 => k_is); (case c9 => k_is); (case k9 => k_is); (case a10 => k_is); (case l10 => k_is); (case c10 => k_is); (case k10 => k_is); (case a11 => k_is); (case l11 => k_is); (case c11 => k_is); (case k11 => k_is); (case a12 => k_is); (case l12 => k_is); (case c12 => k_is); (case k12 => k_is); (case a13 => k_is); (case l13 => k_is); (case c13 => k_is); (case k13 => k_is); (case a14 => k_is); (case l14 => k_is); (case c14 => k_is); (case k14 => k_is); (case a15 => k_is); (case n15 => k_is); (case l15 => k_is); (case c15 => k_is); (case k15 => k_is); (case a16 => k_is); (case n16 => k_is); (case l16 => k_is); (case c16 => k_is); (case k16 => k_is); (case a17 => k_is); (case l17 => k_is); (case c17 => k_is); (case k17 => k_is); (case a18 => k_is); (case l18 => k_is); (case c18 => k_is); (case k18 => k_is); (case a19 => k_is); (case l19 => k_is); (case c19 => k_is); (case k19 => k_is); (case a20 => k_is); (case l20 => k_is); (case c20 => k_is); (case k20 => k_is); (case a21 => k_is); (case l21 => k_is); (case c21 => k_is); (case k21 => k_is); (case a22 => k_is); (case l22 => k_is); (case c22 => k_is); (case k22 => k_is); (case a23 => k_is); (case l23 => k_is); (case c23 => k_is); (case k23 => k_is); (case a24 => k_is); (case l24 => k_is); (case c24 => k_is); (case k24 => k_is); (case a25 => k_is); (case l25 => k_is); (case c25 => k_is); (case k25 => k_is); (case a26 => k_is); (case l26 => k_is); (case c26 => k_is); (case k26 => k_is); (case a27 => k_is); (case l27 => k_is); (case c27 => k_is); (case k27 => k_is); (case a28 => k_is); (case l28 => k_is); (case c28 => k_is); (case k28 => k_is); (case a29 => k_is); (case l29 => k_is); (case c29 => k_is); (case k29 => k_is); (case a30 => k_is); (case l30 => k_is); (case c30 => k_is); (case k30 => k_is); (case a31 => k_is); (case l31 => k_is); (case c31 => k_is); (case k31 => k_is); (case a32 => k_is); (case l32 => k_is); (case c32 => k_is); (case k32 => k_is); (case a33 => k_is); (case l33 => k_is); (case c33 => k_is); (case k33 => k_is); (case a34 => k_is); (case l34 => k_is); (case c34 => k_is); (case k34 => k_is); (case a35 => k_is); (case l35 => k_is); (case c35 => k_is); (case k35 => k_is); (case a36 => k_is); (case l36 => k_is); (case c36 => k_is); (case k36 => k_is); (case a37 => k_is); (case l37 => k_is); (case c37 => k_is); (case k37 => k_is); (case a38 => k_is); (case l38 => k_is); (case c38 => k_is); (case k38 => k_is); (case a39 => k_is); (case l39 => k_is); (case c39 => k_is); (case k39 => k_is); (case a40 => k_is); (case l40 => k_is); (case c40 => k_is); (case k40 => k_is); (case a41 => k_is); (case l41 => k_is); (case c41 => k_is); (case k41 => k_is); (case i_MOST_WORTH => k_is); (case i_LEAST_RUN => k_is); (case i_MOST => k_is); (case i_FIFTEEN => k_is); (case i_SUITS => k_is); (case i_RANKS => k_is); (case i_ALIKE => k_is); (case j_ALIKE => (refine' _root_.G.ktab_of ?kk ?oo ?ee; (case kk => k_is); (case oo => rfl); (case ee => (repeat refine' _root_.G.entI_c ⟨_, rfl⟩ rfl ⟨_, rfl⟩ ?_); exact _root_.G.entI_n))); (case z_len => k_is); (case z_tuple => k_is); (case z_list => k_is); (case z_sum => k_is); (case z_max => k_is); (case z_min => k_is); (case z_all => k_is); (case z_any => k_is); (case z_abs => k_is); (case z_int => k_is); (case z_bool => k_is); (case z_str => k_is); (case z_set => k_is); (case z_sorted => k_is); (case z_range => k_is); (case z_enumerate => k_is); (case z_zip => k_is); (case z_isinstance => k_is); (case z_repr => k_is); (case z_ValueError => k_is); (case lc => k_is); (case lv11 => (first | rfl | kernel_rfl)); (case nTP => (first | kernel_rfl | rfl | decide +kernel)); (case hcd => (first | kernel_rfl | rfl | decide +kernel))
