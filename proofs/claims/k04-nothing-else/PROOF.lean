import PyProof.Rows.All
import Wide.All
import OpenK.AllK
import Wide.FinOn
import HandS.ForMost
import HandS.TupAny
import HandS.Deep
import HandS.Zip
import HandS.IsInst
import HandS.Style
import KE.OsSetLaws
import KE.DataMinMax
import HandS.TupSets
import KE.SortData
import PyProof.TupleOfSeq
import KE.KRevSl
import HandS.SetFor
import HandS.Strs
import HandS.Text
import HandS.Replace
import HandS.TupMul
import HandS.Exc
import HandS.ExcOwn
import HandS.TryOnly
import HandS.WordsExc
import HandS.ExcIs
import HandS.Lambda
import HandS.EndTab
import HandS.EndOwn
import KE.KNestM
import PyProof.StrBlock2
import KE.DataEq
import PySem.Challenge.RW_pegrows_k04_whole_nothing_else_read
set_option Elab.async false
set_option linter.all false
set_option maxRecDepth 100000
set_option autoImplicit false
set_option maxHeartbeats 4000000
namespace G
open PySem PySem.Spec PyProof.Rows L2

/-! ## data, and how a value bears it -/
abbrev D := PyData
abbrev Av := Addr → Prop
abbrev Mem := Hp → Int → Addr → Prop
abbrev noA : Av := fun _ => False
/-- the script, as a datum that nobody writes -/
def scrD (ns : List Int) : D := .dict (ns.map fun n => (.int n, .none))
/-- a table that is kept between calls -/
def memD (k : Int) : D := .dict [(.none, .int k)]

mutual
inductive Br (K : PySem.W.Frag) (M : Mem) (av : Av) (H : Hp) : V → D → Prop
  | non : Br K M av H .non .none
  | bl (b : Bool) : Br K M av H (.bl b) (.bool b)
  | int (i : Int) : Br K M av H (.int i) (.int i)
  | str (x : Str) : Br K M av H (.str x) (.str x)
  | lst {a : Addr} {xs : List V} {ds : List D} : H a = some (.lst xs) → ¬ av a → BrL K M av H xs ds → Br K M av H (.ref a) (.list ds)
  | tup {a : Addr} {xs : List V} {ds : List D} : H a = some (.tup xs) → BrL K M av H xs ds → Br K M av H (.ref a) (.tuple ds)
  | scr {a : Addr} {ns : List Int} : ((∃ o, H a = some (.frz o (.lst (ns.map V.int)))) ∨ SqL K (fun _ => none) a (ns.map V.int)) → Br K M av H (.ref a) (scrD ns)
  | mem {a : Addr} {k : Int} : M H k a → Br K M av H (.ref a) (memD k)
inductive BrL (K : PySem.W.Frag) (M : Mem) (av : Av) (H : Hp) : List V → List D → Prop
  | nil : BrL K M av H [] []
  | cons {v : V} {vs : List V} {d : D} {ds : List D} : Br K M av H v d → BrL K M av H vs ds → BrL K M av H (v :: vs) (d :: ds)
end

/-- what stays: all but what stands at av -/
structure Kp (M : Mem) (av : Av) (H H' : Hp) : Prop where
  lst : ∀ a xs, ¬ av a → H a = some (.lst xs) → H' a = some (.lst xs)
  frz : ∀ a o u, H a = some (.frz o u) → H' a = some (.frz o u)
  tup : ∀ a xs, H a = some (.tup xs) → H' a = some (.tup xs)
  mm : ∀ k a, M H k a → M H' k a
  dom : ∀ a, H' a = none → H a = none
/-- the kept tables stand where all stands -/
def MemOk (M : Mem) : Prop := ∀ H H' k a, Same H H' → M H k a → M H' k a

section
variable {K : PySem.W.Frag} {M : Mem} {av av' : Av} {H H' H2 : Hp}
theorem Kp.refl : Kp M av H H := ⟨fun _ _ _ e => e, fun _ _ _ e => e, fun _ _ e => e, fun _ _ e => e, fun _ e => e⟩
theorem Kp.trans (a : Kp M av H H') (b : Kp M av H' H2) : Kp M av H H2 :=
  ⟨fun c xs n e => b.lst c xs n (a.lst c xs n e), fun c o u e => b.frz c o u (a.frz c o u e), fun c xs e => b.tup c xs (a.tup c xs e), fun k c e => b.mm k c (a.mm k c e), fun c e => a.dom c (b.dom c e)⟩
theorem Kp.weak (h : ∀ a, av a → av' a) (a : Kp M av H H') : Kp M av' H H' := ⟨fun c xs n e => a.lst c xs (fun z => n (h c z)) e, a.frz, a.tup, a.mm, a.dom⟩
theorem Kp.of (a : Kp M noA H H') : Kp M av H H' := a.weak fun _ z => z.elim
theorem Kp.same (hM : MemOk M) (s : Same H H') : Kp M noA H H' := ⟨fun c xs _ e => s c _ e, fun c o u e => s c _ e, fun c xs e => s c _ e, fun k c e => hM H H' k c s e, fun c e => s.free e⟩
theorem same_new {p : Addr} {o : HO} (h : H p = none) : Same H (upd H p o) := fun b u e => by rw [upd_ne (ne_of_none e h)]; exact e
theorem Kp.new (hM : MemOk M) {p : Addr} {o : HO} (h : H p = none) : Kp M noA H (upd H p o) := Kp.same hM (same_new h)
mutual
theorem Br.mono {v : V} {d : D} (k : Kp M av H H') : Br K M av H v d → Br K M av H' v d
  | .non => .non
  | .bl b => .bl b
  | .int i => .int i
  | .str x => .str x
  | .lst e n r => .lst (k.lst _ _ n e) n (BrL.mono k r)
  | .tup e r => .tup (k.tup _ _ e) (BrL.mono k r)
  | .scr h => .scr (h.imp (fun ⟨o, e⟩ => ⟨o, k.frz _ _ _ e⟩) id)
  | .mem h => .mem (k.mm _ _ h)
theorem BrL.mono {vs : List V} {ds : List D} (k : Kp M av H H') : BrL K M av H vs ds → BrL K M av H' vs ds
  | .nil => .nil
  | .cons a r => .cons (Br.mono k a) (BrL.mono k r)
end
mutual
theorem Br.weak {v : V} {d : D} (h : ∀ a, av' a → av a ∨ H a = none) : Br K M av H v d → Br K M av' H v d
  | .non => .non
  | .bl b => .bl b
  | .int i => .int i
  | .str x => .str x
  | .lst e n r => .lst e (fun z => (h _ z).elim n fun q => by rw [q] at e; cases e) (BrL.weak h r)
  | .tup e r => .tup e (BrL.weak h r)
  | .scr h => .scr h
  | .mem h => .mem h
theorem BrL.weak {vs : List V} {ds : List D} (h : ∀ a, av' a → av a ∨ H a = none) : BrL K M av H vs ds → BrL K M av' H vs ds
  | .nil => .nil
  | .cons a r => .cons (Br.weak h a) (BrL.weak h r)
end
theorem BrL.length {vs : List V} {ds : List D} : BrL K M av H vs ds → vs.length = ds.length
  | .nil => rfl
  | .cons _ r => congrArg (· + 1) (BrL.length r)
theorem BrL.get {vs : List V} {ds : List D} {d : D} : ∀ {i : Nat}, BrL K M av H vs ds → ds[i]? = some d → ∃ v, vs[i]? = some v ∧ Br K M av H v d
  | _, .nil, e => by simp at e
  | 0, .cons a r, e => by simp at e; subst e; exact ⟨_, rfl, a⟩
  | i + 1, .cons a r, e => by
    obtain ⟨v, e1, b⟩ := BrL.get (i := i) r (by simpa using e)
    exact ⟨v, by simpa using e1, b⟩
theorem BrL.getV {vs : List V} {ds : List D} {v : V} : ∀ {i : Nat}, BrL K M av H vs ds → vs[i]? = some v → ∃ d, ds[i]? = some d ∧ Br K M av H v d
  | _, .nil, e => by simp at e
  | 0, .cons a r, e => by simp at e; subst e; exact ⟨_, rfl, a⟩
  | i + 1, .cons a r, e => by
    obtain ⟨v, e1, b⟩ := BrL.getV (i := i) r (by simpa using e)
    exact ⟨v, by simpa using e1, b⟩
theorem BrL.append {vs ws : List V} {ds es : List D} : BrL K M av H vs ds → BrL K M av H ws es → BrL K M av H (vs ++ ws) (ds ++ es)
  | .nil, b => b
  | .cons a r, b => .cons a (BrL.append r b)
theorem BrL.drop {vs : List V} {ds : List D} : ∀ (n : Nat), BrL K M av H vs ds → BrL K M av H (vs.drop n) (ds.drop n)
  | 0, r => r
  | _ + 1, .nil => .nil
  | n + 1, .cons _ r => BrL.drop n r
theorem BrL.take {vs : List V} {ds : List D} : ∀ (n : Nat), BrL K M av H vs ds → BrL K M av H (vs.take n) (ds.take n)
  | 0, _ => .nil
  | _ + 1, .nil => .nil
  | n + 1, .cons a r => .cons a (BrL.take n r)
theorem BrL.set {vs : List V} {ds : List D} {v : V} {d : D} (b : Br K M av H v d) : ∀ (n : Nat), BrL K M av H vs ds → BrL K M av H (vs.set n v) (ds.set n d)
  | _, .nil => .nil
  | 0, .cons _ r => .cons b r
  | n + 1, .cons a r => .cons a (BrL.set b n r)
theorem BrL.rev {vs : List V} {ds : List D} : BrL K M av H vs ds → BrL K M av H vs.reverse ds.reverse
  | .nil => .nil
  | .cons a r => by
    rw [List.reverse_cons, List.reverse_cons]
    exact (BrL.rev r).append (.cons a .nil)
theorem BrL.ints : ∀ (ns : List Int), BrL K M av H (ns.map V.int) (ns.map PyData.int)
  | [] => .nil
  | n :: r => .cons (.int n) (BrL.ints r)
theorem BrL.of_ints : ∀ {ns : List Int} {vs : List V}, BrL K M av H vs (ns.map PyData.int) → vs = ns.map V.int
  | [], _, .nil => rfl
  | n :: r, _, .cons a b => by
    cases a with
    | int i => rw [BrL.of_ints b]; rfl
end

/-- a value whose own list may stand among the owned ones -/
def BrK (K : PySem.W.Frag) (M : Mem) (av : Av) (H : Hp) (v : V) (d : D) : Prop :=
  Br K M av H v d ∨ ∃ a xs ds, v = .ref a ∧ d = .list ds ∧ H a = some (.lst xs) ∧ BrL K M av H xs ds
inductive BrKL (K : PySem.W.Frag) (M : Mem) (av : Av) (H : Hp) : List V → List D → Prop
  | nil : BrKL K M av H [] []
  | cons {v : V} {vs : List V} {d : D} {ds : List D} : BrK K M av H v d → BrKL K M av H vs ds → BrKL K M av H (v :: vs) (d :: ds)
section
variable {K : PySem.W.Frag} {M : Mem} {av av' : Av} {H H' H2 : Hp}
theorem BrK.mono {v : V} {d : D} (k : Kp M noA H H') : BrK K M av H v d → BrK K M av H' v d
  | .inl b => .inl (b.mono k.of)
  | .inr ⟨a, xs, ds, e1, e2, e3, b⟩ => .inr ⟨a, xs, ds, e1, e2, k.lst _ _ (fun z => z) e3, b.mono k.of⟩
theorem BrKL.mono {vs : List V} {ds : List D} (k : Kp M noA H H') : BrKL K M av H vs ds → BrKL K M av H' vs ds
  | .nil => .nil
  | .cons a r => .cons (a.mono k) (BrKL.mono k r)
theorem BrKL.of {vs : List V} {ds : List D} : BrL K M av H vs ds → BrKL K M av H vs ds
  | .nil => .nil
  | .cons a r => .cons (.inl a) (BrKL.of r)
/-- what stands under a list's datum -/
theorem BrK.list {v : V} {ds : List D} (b : BrK K M av H v (.list ds)) : ∃ a xs, v = .ref a ∧ H a = some (.lst xs) ∧ BrL K M av H xs ds := by
  rcases b with b | ⟨a, xs, es, e1, e2, e3, b⟩
  · cases b with
    | lst e n r => exact ⟨_, _, rfl, e, r⟩
  · cases e2; exact ⟨a, xs, e1, e3, b⟩
theorem BrK.tuple {v : V} {ds : List D} (b : BrK K M av H v (.tuple ds)) : ∃ a xs, v = .ref a ∧ H a = some (.tup xs) ∧ BrL K M av H xs ds := by
  rcases b with b | ⟨a, xs, es, e1, e2, e3, b⟩
  · cases b with
    | tup e r => exact ⟨_, _, rfl, e, r⟩
  · cases e2
theorem BrK.int_ {v : V} {i : Int} (b : BrK K M av H v (.int i)) : v = .int i := by
  rcases b with b | ⟨a, xs, es, e1, e2, e3, b⟩
  · cases b; rfl
  · cases e2
theorem BrK.str_ {v : V} {i : Str} (b : BrK K M av H v (.str i)) : v = .str i := by
  rcases b with b | ⟨a, xs, es, e1, e2, e3, b⟩
  · cases b; rfl
  · cases e2
theorem BrK.bool_ {v : V} {i : Bool} (b : BrK K M av H v (.bool i)) : v = .bl i := by
  rcases b with b | ⟨a, xs, es, e1, e2, e3, b⟩
  · cases b; rfl
  · cases e2
theorem BrK.none_ {v : V} (b : BrK K M av H v .none) : v = .non := by
  rcases b with b | ⟨a, xs, es, e1, e2, e3, b⟩
  · cases b; rfl
  · cases e2
end

/-! ## the slots -/
inductive Sl where
  | no
  | va (d : D)
  | ow (ds : List D)
abbrev Ev := List Sl
def SlOk (K : PySem.W.Frag) (M : Mem) (H0 : Hp) (av0 av : Av) (H : Hp) (x : Option V) : Sl → Prop
  | .no => True
  | .va d => ∃ v, x = some v ∧ Br K M av H v d
  | .ow ds => ∃ a xs, x = some (.ref a) ∧ av a ∧ ¬ av0 a ∧ H0 a = none ∧ H a = some (.lst xs) ∧ BrL K M av H xs ds
structure Cor (K : PySem.W.Frag) (M : Mem) (H0 : Hp) (av0 av : Av) (H : Hp) (σ : L2.St) (ρ : Ev) : Prop where
  kp : Kp M noA H0 H
  dom : ∀ a, av a → H a ≠ none
  sub : ∀ a, av0 a → av a
  len : σ.length = ρ.length
  slot : ∀ (i : Nat) (s : Sl), ρ[i]? = some s → ∃ x, σ[i]? = some x ∧ SlOk K M H0 av0 av H x s
  sep : ∀ (i j : Nat) (ds es : List D) (a : Addr), ρ[i]? = some (.ow ds) → ρ[j]? = some (.ow es) → σ[i]? = some (some (.ref a)) → σ[j]? = some (some (.ref a)) → i = j
section
variable {K : PySem.W.Frag} {M : Mem} {H0 : Hp} {av0 av : Av} {H H' : Hp} {σ : L2.St} {ρ : Ev}
theorem SlOk.mono {x : Option V} {s : Sl} (k : Kp M noA H H') (h : SlOk K M H0 av0 av H x s) : SlOk K M H0 av0 av H' x s := by
  cases s with
  | no => trivial
  | va d => obtain ⟨v, e, b⟩ := h; exact ⟨v, e, b.mono k.of⟩
  | ow ds => obtain ⟨a, xs, e, h1, h2, h3, h4, b⟩ := h; exact ⟨a, xs, e, h1, h2, h3, k.lst _ _ (fun z => z) h4, b.mono k.of⟩
theorem Cor.mono (c : Cor K M H0 av0 av H σ ρ) (k : Kp M noA H H') : Cor K M H0 av0 av H' σ ρ :=
  ⟨c.kp.trans k, fun a z e => c.dom a z (k.dom a e), c.sub, c.len, fun i s e => let ⟨x, e1, o⟩ := c.slot i s e; ⟨x, e1, o.mono k⟩, c.sep⟩
/-- a slot is filled with a datum -/
theorem Cor.setVa (c : Cor K M H0 av0 av H σ ρ) {i : Nat} {v : V} {d : D} (b : Br K M av H v d) : Cor K M H0 av0 av H (σ.set i (some v)) (ρ.set i (.va d)) := by
  refine ⟨c.kp, c.dom, c.sub, by rw [List.length_set, List.length_set]; exact c.len, fun j s e => ?_, fun j l ds es a e1 e2 e3 e4 => ?_⟩
  · by_cases h : i = j
    · subst h
      have hl : i < ρ.length := by
        have := (List.getElem?_eq_some_iff.mp e).1
        simpa using this
      rw [List.getElem?_set_self hl] at e
      cases e
      exact ⟨some v, by rw [List.getElem?_set_self (by rw [c.len]; exact hl)], v, rfl, b⟩
    · rw [List.getElem?_set_ne h] at e
      obtain ⟨x, e1, o⟩ := c.slot j s e
      exact ⟨x, by rw [List.getElem?_set_ne h]; exact e1, o⟩
  · have key : ∀ {j : Nat} {ds : List D}, (ρ.set i (.va d))[j]? = some (.ow ds) → i ≠ j ∧ ρ[j]? = some (.ow ds) := fun {j ds} e => by
      by_cases h : i = j
      · subst h
        have hl : i < ρ.length := by
          have := (List.getElem?_eq_some_iff.mp e).1
          simpa using this
        rw [List.getElem?_set_self hl] at e
        cases e
      · rw [List.getElem?_set_ne h] at e
        exact ⟨h, e⟩
    obtain ⟨n1, g1⟩ := key e1
    obtain ⟨n2, g2⟩ := key e2
    rw [List.getElem?_set_ne n1] at e3
    rw [List.getElem?_set_ne n2] at e4
    exact c.sep j l ds es a g1 g2 e3 e4
theorem wipeE_len (ρ : Ev) : ∀ vs : List Nat, (vs.foldr (fun v r => r.set v .no) ρ).length = ρ.length
  | [] => rfl
  | v :: vs => by
    show ((vs.foldr (fun v r => r.set v .no) ρ).set v .no).length = _
    rw [List.length_set, wipeE_len ρ vs]
/-- slots forgotten -/
def wipeE (ρ : Ev) (vs : List Nat) : Ev := vs.foldr (fun v r => r.set v .no) ρ
theorem Cor.wipe1 (c : Cor K M H0 av0 av H σ ρ) (i : Nat) : Cor K M H0 av0 av H (σ.set i none) (ρ.set i .no) := by
  have key : ∀ {j : Nat} {s : Sl}, (ρ.set i .no)[j]? = some s → (i ≠ j ∧ ρ[j]? = some s) ∨ (i = j ∧ s = .no ∧ i < ρ.length) := fun {j s} e => by
    by_cases h : i = j
    · subst h
      have hl : i < ρ.length := by
        have := (List.getElem?_eq_some_iff.mp e).1
        simpa using this
      rw [List.getElem?_set_self hl] at e
      cases e
      exact .inr ⟨rfl, rfl, hl⟩
    · rw [List.getElem?_set_ne h] at e
      exact .inl ⟨h, e⟩
  refine ⟨c.kp, c.dom, c.sub, by rw [List.length_set, List.length_set]; exact c.len, fun j s e => ?_, fun j l ds es a e1 e2 e3 e4 => ?_⟩
  · rcases key e with ⟨h, e⟩ | ⟨h, rfl, hl⟩
    · obtain ⟨x, e1, o⟩ := c.slot j s e
      exact ⟨x, by rw [List.getElem?_set_ne h]; exact e1, o⟩
    · subst h
      exact ⟨none, by rw [List.getElem?_set_self (by rw [c.len]; exact hl)], trivial⟩
  · rcases key e1 with ⟨n1, g1⟩ | ⟨_, z, _⟩
    · rcases key e2 with ⟨n2, g2⟩ | ⟨_, z, _⟩
      · rw [List.getElem?_set_ne n1] at e3
        rw [List.getElem?_set_ne n2] at e4
        exact c.sep j l ds es a g1 g2 e3 e4
      · cases z
    · cases z
theorem Cor.wipe (c : Cor K M H0 av0 av H σ ρ) : ∀ vs : List Nat, Cor K M H0 av0 av H (L2.wipe σ vs) (wipeE ρ vs)
  | [] => c
  | v :: vs => (Cor.wipe c vs).wipe1 v
end

/-! ## expressions -/
abbrev EF := Ev → Option D
abbrev BF := Ev → Option Bool
abbrev LF := Ev → Option (List D)
section
variable (K : PySem.W.Frag) (M : Mem)
def tE (f : EF) : TE := fun σ H Q => ∃ H0 av0 av ρ d, Cor K M H0 av0 av H σ ρ ∧ f ρ = some d ∧ ∀ v H', Kp M noA H H' → Br K M av H' v d → Q v H'
def tK (f : EF) : TE := fun σ H Q => ∃ H0 av0 av ρ d, Cor K M H0 av0 av H σ ρ ∧ f ρ = some d ∧ ∀ v H', Kp M noA H H' → BrK K M av H' v d → Q v H'
def tT (f : BF) : TT := fun σ H Q => ∃ H0 av0 av ρ b, Cor K M H0 av0 av H σ ρ ∧ f ρ = some b ∧ ∀ H', Kp M noA H H' → Q b H'
def tA (f : LF) : TA := fun σ H Q => ∃ H0 av0 av ρ ds, Cor K M H0 av0 av H σ ρ ∧ f ρ = some ds ∧ ∀ vs H', Kp M noA H H' → BrL K M av H' vs ds → Q vs H'
def tAK (f : LF) : TA := fun σ H Q => ∃ H0 av0 av ρ ds, Cor K M H0 av0 av H σ ρ ∧ f ρ = some ds ∧ ∀ vs H', Kp M noA H H' → BrKL K M av H' vs ds → Q vs H'
end
abbrev FE (X : Cx) (M : Mem) (e : Expr) (f : EF) : Prop := PE X e (tE X.K M f)
abbrev FK (X : Cx) (M : Mem) (e : Expr) (f : EF) : Prop := PE X e (tK X.K M f)
abbrev FT (X : Cx) (M : Mem) (e : Expr) (f : BF) : Prop := PT X e (tT X.K M f)
abbrev FW (X : Cx) (M : Mem) (e : Expr) (f : BF) : Prop := PW X e (tT X.K M f)
abbrev FA (X : Cx) (M : Mem) (es : List Expr) (f : LF) : Prop := PA X es (tA X.K M f)
abbrev FAK (X : Cx) (M : Mem) (es : List Expr) (f : LF) : Prop := PA X es (tAK X.K M f)

theorem PE.imp {X : Cx} {e : Expr} {t t' : TE} (h : PE X e t) (i : ∀ σ H Q, t' σ H Q → t σ H Q) : PE X e t' := ⟨fun pins s σ H Q I q => h.run pins s σ H Q I (i _ _ _ q)⟩
theorem PT.imp {X : Cx} {e : Expr} {t t' : TT} (h : PT X e t) (i : ∀ σ H Q, t' σ H Q → t σ H Q) : PT X e t' := ⟨fun pins s σ H Q I q => h.run pins s σ H Q I (i _ _ _ q)⟩
theorem PW.imp {X : Cx} {e : Expr} {t t' : TT} (h : PW X e t) (i : ∀ σ H Q, t' σ H Q → t σ H Q) : PW X e t' := ⟨fun wh pins s σ H Q I q => h.run wh pins s σ H Q I (i _ _ _ q)⟩
theorem PA.imp {X : Cx} {e : List Expr} {t t' : TA} (h : PA X e t) (i : ∀ σ H Q, t' σ H Q → t σ H Q) : PA X e t' := ⟨fun pos pins s σ H Q I q => h.run pos pins s σ H Q I (i _ _ _ q)⟩
theorem PS.imp {X : Cx} {e : Stmt} {t t' : TS} (h : PS X e t) (i : ∀ D σ H, t' D σ H → t D σ H) : PS X e t' := ⟨fun pins s σ H D I q => h.run pins s σ H D I (i _ _ _ q)⟩
theorem PSs.imp {X : Cx} {e : List Stmt} {t t' : TS} (h : PSs X e t) (i : ∀ D σ H, t' D σ H → t D σ H) : PSs X e t' := ⟨fun pins s σ H D I q => h.run pins s σ H D I (i _ _ _ q)⟩

/-! ### the plain functions -/
def cV (i : Nat) : EF := fun ρ => match ρ[i]? with
  | some (.va d) => some d
  | _ => none
def cO (i : Nat) : EF := fun ρ => match ρ[i]? with
  | some (.ow ds) => some (.list ds)
  | _ => none
def cC (d : D) : EF := fun _ => some d
def c1 (g : D → Option D) (f : EF) : EF := fun ρ => (f ρ).bind g
def c2 (g : D → D → Option D) (f h : EF) : EF := fun ρ => (f ρ).bind fun x => (h ρ).bind fun y => g x y
def cT1 (g : D → Option Bool) (f : EF) : BF := fun ρ => (f ρ).bind g
def cNil : LF := fun _ => some []
def cCons (f : EF) (r : LF) : LF := fun ρ => (f ρ).bind fun x => (r ρ).bind fun xs => some (x :: xs)
def cCall (g : List D → Option D) (f : LF) : EF := fun ρ => (f ρ).bind g
def cTup (f : LF) : EF := fun ρ => (f ρ).bind fun ds => if ds.length ≤ 1000 then some (.tuple ds) else none
def cLst (f : LF) : EF := fun ρ => (f ρ).bind fun ds => if ds.length ≤ 1000 then some (.list ds) else none
def asB : D → Option Bool
  | .bool b => some b
  | _ => none
def cIf (t : BF) (f h : EF) : EF := fun ρ => (t ρ).bind fun b => if b = true then f ρ else h ρ
def cAnd (t u : BF) : BF := fun ρ => (t ρ).bind fun b => if b = true then u ρ else some false
def cOr (t u : BF) : BF := fun ρ => (t ρ).bind fun b => if b = true then some true else u ρ
def cNot (t : BF) : BF := fun ρ => (t ρ).bind fun b => some (!b)
def cAndV (t u : EF) : EF := fun ρ => (t ρ).bind fun d => (asB d).bind fun b => if b = true then u ρ else some (.bool false)
def cOrV (t u : EF) : EF := fun ρ => (t ρ).bind fun d => (asB d).bind fun b => if b = true then some (.bool true) else u ρ
def notD (d : D) : Option D := (asB d).bind fun b => some (.bool (!b))

section
variable {X : Cx} {M : Mem} {a b e : Expr} {f h : EF} {pos : Pos}
theorem small1000' {n : Nat} (h : n ≤ 1000) : n ≤ sizeLine := by rw [sizeLine_eq]; omega
theorem fk_of (he : FE X M e f) : FK X M e f := PE.imp he fun σ H Q q => by
  obtain ⟨H0, av0, av, ρ, d, c, e, k⟩ := q
  exact ⟨H0, av0, av, ρ, d, c, e, fun v H' k1 b1 => k v H' k1 (.inl b1)⟩
theorem fe_var (i : Nat) (h : PE X e (tVar i)) : FE X M e (cV i) := PE.imp h fun σ H Q q => by
  obtain ⟨H0, av0, av, ρ, d, c, e, k⟩ := q
  unfold cV at e
  split at e
  · rename_i d' e'
    cases e
    obtain ⟨x, e1, v, rfl, b1⟩ := c.slot _ _ e'
    exact ⟨v, e1, k v H Kp.refl b1⟩
  · cases e
theorem fk_own (i : Nat) (h : PE X e (tVar i)) : FK X M e (cO i) := PE.imp h fun σ H Q q => by
  obtain ⟨H0, av0, av, ρ, d, c, e, k⟩ := q
  unfold cO at e
  split at e
  · rename_i d' e'
    cases e
    obtain ⟨x, e1, a, xs, rfl, h1, h2, h3, h4, b1⟩ := c.slot _ _ e'
    exact ⟨_, e1, k _ H Kp.refl (.inr ⟨a, xs, _, rfl, rfl, h4, b1⟩)⟩
  · cases e
theorem fe_const {v : V} {d : D} (h : PE X e (tC v)) (hb : ∀ av H, Br X.K M av H v d) : FE X M e (cC d) := PE.imp h fun σ H Q q => by
  obtain ⟨H0, av0, av, ρ, d', c, e, k⟩ := q
  cases e
  exact k v H Kp.refl (hb _ _)
theorem fe_int {i j pos} : FE X M (.Constant (.int i) j pos) (cC (.int i)) := fe_const pe_int fun _ _ => .int i
theorem fe_bl {i j pos} : FE X M (.Constant (.bool i) j pos) (cC (.bool i)) := fe_const pe_bl fun _ _ => .bl i
theorem fe_non {j pos} : FE X M (.Constant .none j pos) (cC .none) := fe_const pe_non fun _ _ => .non
theorem fe_str {i j pos} : FE X M (.Constant (.str i) j pos) (cC (.str i)) := fe_const pe_str fun _ _ => .str i

/-! ### operations -/
def r2 (K : PySem.W.Frag) (M : Mem) (g : D → D → Option D) : R2 := fun x y H Q => ∃ av d e r, BrK K M av H x d ∧ BrK K M av H y e ∧ (∀ a, av a → H a ≠ none) ∧ g d e = some r ∧ ∀ v H', Kp M noA H H' → Br K M av H' v r → Q v H'
def r1 (K : PySem.W.Frag) (M : Mem) (g : D → Option D) : V → Hp → VK → Prop := fun x H Q => ∃ av d r, BrK K M av H x d ∧ (∀ a, av a → H a ≠ none) ∧ g d = some r ∧ ∀ v H', Kp M noA H H' → Br K M av H' v r → Q v H'
def rC (K : PySem.W.Frag) (M : Mem) (g : List D → Option D) : List V → Hp → VK → Prop := fun xs H Q => ∃ av ds r, BrKL K M av H xs ds ∧ (∀ a, av a → H a ≠ none) ∧ g ds = some r ∧ ∀ v H', Kp M noA H H' → Br K M av H' v r → Q v H'
theorem bind_some {α β : Type} {o : Option α} {f : α → Option β} {r : β} (h : o.bind f = some r) : ∃ x, o = some x ∧ f x = some r := by
  cases o with
  | none => cases h
  | some x => exact ⟨x, rfl, h⟩
theorem two_of {ta : TE} {f h : EF} {g : D → D → Option D} {σ : L2.St} {H : Hp} {Q : VK} {r : R2} (hr : ∀ x y H Q, r2 X.K M g x y H Q → r x y H Q) (q : tE X.K M (c2 g f h) σ H Q) : tOp r (tK X.K M f) (tK X.K M h) σ H Q := by
  obtain ⟨H0, av0, av, ρ, d, c, e, k⟩ := q
  obtain ⟨x, e1, e⟩ := bind_some e
  obtain ⟨y, e2, e⟩ := bind_some e
  refine ⟨H0, av0, av, ρ, x, c, e1, fun v H1 k1 b1 => ?_⟩
  refine ⟨H0, av0, av, ρ, y, c.mono k1, e2, fun w H2 k2 b2 => ?_⟩
  refine hr _ _ _ _ ⟨av, x, y, d, b1.mono k2, b2, (c.mono (k1.trans k2)).dom, e, fun u H3 k3 b3 => k u H3 ((k1.trans k2).trans k3) b3⟩
theorem fe_op {op : Operator} {g : D → D → Option D} (ho : OpR X (binaryOp op) (r2 X.K M g)) (ha : FK X M a f) (hb : FK X M b h) : FE X M (.BinOp a op b pos) (c2 g f h) :=
  PE.imp (pe_op ho ha hb) fun σ H Q q => two_of (ta := fun _ _ _ => True) (fun _ _ _ _ z => z) q
theorem fe_cmp {op : CmpOp} {g : D → D → Option D} (ho : OpR X (compareOp op) (r2 X.K M g)) (ha : FK X M a f) (hb : FK X M b h) (hm : behindInMarks op b = false) : FE X M (.Compare a [op] [b] pos) (c2 g f h) :=
  PE.imp (pe_cmpR ho ha hb hm) fun σ H Q q => two_of (ta := fun _ _ _ => True) (fun _ _ _ _ z => z) q
theorem fe_ix {g : D → D → Option D} (ho : IxR X (r2 X.K M g)) (ha : FK X M a f) (hb : FK X M b h) (hs : PlainIx b) : FE X M (.Subscript a b pos) (c2 g f h) :=
  PE.imp (pe_ix ho ha hb hs) fun σ H Q q => two_of (ta := fun _ _ _ => True) (fun _ _ _ _ z => z) q
theorem fe_un {op : UnaryOp} {g : D → Option D} (ho : UnR X (unaryOp op) (r1 X.K M g)) (ha : FK X M a f) : FE X M (.UnaryOp op a pos) (c1 g f) :=
  PE.imp (pe_un ho ha) fun σ H Q q => by
    obtain ⟨H0, av0, av, ρ, d, c, e, k⟩ := q
    obtain ⟨x, e1, e⟩ := bind_some e
    refine ⟨H0, av0, av, ρ, x, c, e1, fun v H1 k1 b1 => ?_⟩
    exact ⟨av, x, d, b1, (c.mono k1).dom, e, fun u H3 k3 b3 => k u H3 (k1.trans k3) b3⟩
/-! ### argument lists -/
theorem fa_nil : FA X M [] cNil := PA.imp pa_nil fun σ H Q q => by
  obtain ⟨H0, av0, av, ρ, d, c, e, k⟩ := q
  cases e
  exact k [] H Kp.refl .nil
theorem fa_cons {es : List Expr} {r : LF} (ha : FE X M e f) (hr : FA X M es r) (hs : starEach (e :: es) X.env = (false, eval e X.env) :: starEach es X.env := by rfl) : FA X M (e :: es) (cCons f r) := PA.imp (pa_cons ha hr hs) fun σ H Q q => by
  obtain ⟨H0, av0, av, ρ, d, c, e, k⟩ := q
  obtain ⟨x, e1, e⟩ := bind_some e
  obtain ⟨xs, e2, e⟩ := bind_some e
  cases e
  refine ⟨H0, av0, av, ρ, x, c, e1, fun v H1 k1 b1 => ?_⟩
  refine ⟨H0, av0, av, ρ, xs, c.mono k1, e2, fun vs H2 k2 b2 => ?_⟩
  exact k (v :: vs) H2 (k1.trans k2) (.cons (b1.mono k2.of) b2)
theorem fak_nil : FAK X M [] cNil := PA.imp pa_nil fun σ H Q q => by
  obtain ⟨H0, av0, av, ρ, d, c, e, k⟩ := q
  cases e
  exact k [] H Kp.refl .nil
theorem fak_cons {es : List Expr} {r : LF} (ha : FK X M e f) (hr : FAK X M es r) (hs : starEach (e :: es) X.env = (false, eval e X.env) :: starEach es X.env := by rfl) : FAK X M (e :: es) (cCons f r) := PA.imp (pa_cons ha hr hs) fun σ H Q q => by
  obtain ⟨H0, av0, av, ρ, d, c, e, k⟩ := q
  obtain ⟨x, e1, e⟩ := bind_some e
  obtain ⟨xs, e2, e⟩ := bind_some e
  cases e
  refine ⟨H0, av0, av, ρ, x, c, e1, fun v H1 k1 b1 => ?_⟩
  refine ⟨H0, av0, av, ρ, xs, c.mono k1, e2, fun vs H2 k2 b2 => ?_⟩
  exact k (v :: vs) H2 (k1.trans k2) (.cons (b1.mono k2) b2)
theorem fe_tup {es : List Expr} {r : LF} {x1} (hM : MemOk M) (ha : FA X M es r) : FE X M (.Tuple es x1 pos) (cTup r) := PE.imp (pe_tup ha) fun σ H Q q => by
  obtain ⟨H0, av0, av, ρ, d, c, e, k⟩ := q
  obtain ⟨xs, e1, e⟩ := bind_some e
  split at e
  · rename_i hl
    cases e
    refine ⟨H0, av0, av, ρ, xs, c, e1, fun vs H1 k1 b1 => ⟨?_, fun p hp => ?_⟩⟩
    · rw [b1.length]; exact small1000' hl
    · exact k _ _ (k1.trans (Kp.new hM hp)) (.tup upd_same (b1.mono (Kp.new hM hp).of))
  · cases e
theorem fe_lst {es : List Expr} {r : LF} (hM : MemOk M) (ha : FA X M es r) : FE X M (.List es pos) (cLst r) := PE.imp (pe_lst ha) fun σ H Q q => by
  obtain ⟨H0, av0, av, ρ, d, c, e, k⟩ := q
  obtain ⟨xs, e1, e⟩ := bind_some e
  split at e
  · rename_i hl
    cases e
    refine ⟨H0, av0, av, ρ, xs, c, e1, fun vs H1 k1 b1 => ⟨?_, fun p hp => ?_⟩⟩
    · rw [b1.length]; exact small1000' hl
    · exact k _ _ (k1.trans (Kp.new hM hp)) (.lst upd_same (fun z => (c.mono k1).dom _ z hp) (b1.mono (Kp.new hM hp).of))
  · cases e
/-! ### calls of built-ins -/
theorem rc_of {es : List Expr} {r : LF} {g : List D → Option D} {σ : L2.St} {H : Hp} {Q : VK} (q : tE X.K M (cCall g r) σ H Q) : tAK X.K M r σ H fun vs H1 => rC X.K M g vs H1 Q := by
  obtain ⟨H0, av0, av, ρ, d, c, e, k⟩ := q
  obtain ⟨xs, e1, e⟩ := bind_some e
  refine ⟨H0, av0, av, ρ, xs, c, e1, fun vs H1 k1 b1 => ?_⟩
  exact ⟨av, xs, d, b1, (c.mono k1).dom, e, fun u H3 k3 b3 => k u H3 (k1.trans k3) b3⟩
theorem fe_callB {id : String} {x : Str} {p : Pos} {es : List Expr} {r : LF} {g : List D → Option D} (hc : CallR X (.builtin id) (rC X.K M g)) (hg : Gl X x) (hm : X.mg x = none) (hv : bootBuiltins x = some (.builtin id)) (ha : FAK X M (e :: es) r) (hn : x ≠ "__name__" := by decide)
    (hdb : (x == ("__debug__" : Str)) = false := by decide) (he : starEach (e :: es) X.env = (false, eval e X.env) :: starEach es X.env := by rfl) (hpl : (backTo pos (starEach es X.env)).any (·.1) = false := by rfl) : FE X M (.Call (.Name x p) (e :: es) [] pos) (cCall g r) :=
  PE.imp (pe_callB hc hg hm hv ha hn hdb he hpl) fun σ H Q q => rc_of (es := es) q
theorem fe_callTy {T : String} {x : Str} {p : Pos} {es : List Expr} {r : LF} {g : List D → Option D} (hc : CallR X (.type T) (rC X.K M g)) (hg : Gl X x) (hm : X.mg x = none) (hv : bootBuiltins x = some (.type T)) (ha : FAK X M (e :: es) r) (hn : x ≠ "__name__" := by decide)
    (hdb : (x == ("__debug__" : Str)) = false := by decide) (he : starEach (e :: es) X.env = (false, eval e X.env) :: starEach es X.env := by rfl) (hpl : (backTo pos (starEach es X.env)).any (·.1) = false := by rfl) : FE X M (.Call (.Name x p) (e :: es) [] pos) (cCall g r) :=
  PE.imp (pe_callTy hc hg hm hv ha hn hdb he hpl) fun σ H Q q => rc_of (es := es) q
/-! ### tests -/
theorem ft_val (he : FE X M e f) (hh : ∀ whole, isTrue e X.env whole = (do let v ← whole; standAt e.pos; holding [v] (truthy v)) := by intro _; rfl) : FT X M e (cT1 asB f) := PT.imp (pt_val he hh) fun σ H Q q => by
  obtain ⟨H0, av0, av, ρ, d, c, e, k⟩ := q
  obtain ⟨x, e1, e⟩ := bind_some e
  refine ⟨H0, av0, av, ρ, x, c, e1, fun v H1 k1 b1 => ?_⟩
  unfold asB at e
  split at e
  · cases e
    cases b1
    exact ⟨_, rfl, k H1 k1⟩
  · cases e
theorem ft_cmp {op : CmpOp} {g : D → D → Option D} (ho : OpR X (compareOp op) (r2 X.K M g)) (ha : FK X M a f) (hb : FK X M b h) (hm : behindInMarks op b = false) : FT X M (.Compare a [op] [b] pos) (cT1 asB (c2 g f h)) :=
  PT.imp (pt_cmpR ho ha hb hm) fun σ H Q q => by
    obtain ⟨H0, av0, av, ρ, d, c, e, k⟩ := q
    obtain ⟨x, e1, e⟩ := bind_some e
    refine two_of (ta := fun _ _ _ => True) (g := g) (fun _ _ _ _ z => z) ⟨H0, av0, av, ρ, x, c, e1, fun v H1 k1 b1 => ?_⟩
    unfold asB at e
    split at e
    · cases e
      cases b1
      exact ⟨_, rfl, k H1 k1⟩
    · cases e
theorem fw_pt {t : BF} (h : FW X M e t) : FT X M e t := PW.pt h
theorem fw_and1 {t : BF} (h : FT X M e t) : FW X M (.BoolOp .And [e] pos) t := pw_and1 h
theorem fw_or1 {t : BF} (h : FT X M e t) : FW X M (.BoolOp .Or [e] pos) t := pw_or1 h
theorem fw_and {t u : BF} {rest : List Expr} (ha : FT X M a t) (hb : FW X M (.BoolOp .And (b :: rest) pos) u) : FW X M (.BoolOp .And (a :: b :: rest) pos) (cAnd t u) := PW.imp (pw_and ha hb) fun σ H Q q => by
  obtain ⟨H0, av0, av, ρ, d, c, e, k⟩ := q
  obtain ⟨x, e1, e⟩ := bind_some e
  refine ⟨H0, av0, av, ρ, x, c, e1, fun H1 k1 => ?_⟩
  cases x with
  | true => exact ⟨H0, av0, av, ρ, d, c.mono k1, e, fun H2 k2 => k H2 (k1.trans k2)⟩
  | false => cases e; exact k H1 k1
theorem fw_or {t u : BF} {rest : List Expr} (ha : FT X M a t) (hb : FW X M (.BoolOp .Or (b :: rest) pos) u) : FW X M (.BoolOp .Or (a :: b :: rest) pos) (cOr t u) := PW.imp (pw_or ha hb) fun σ H Q q => by
  obtain ⟨H0, av0, av, ρ, d, c, e, k⟩ := q
  obtain ⟨x, e1, e⟩ := bind_some e
  refine ⟨H0, av0, av, ρ, x, c, e1, fun H1 k1 => ?_⟩
  cases x with
  | false => exact ⟨H0, av0, av, ρ, d, c.mono k1, e, fun H2 k2 => k H2 (k1.trans k2)⟩
  | true => cases e; exact k H1 k1
theorem ft_not {t : BF} (ha : FT X M a t) : FT X M (.UnaryOp .Not a pos) (cNot t) := PT.imp (pt_not ha) fun σ H Q q => by
  obtain ⟨H0, av0, av, ρ, d, c, e, k⟩ := q
  obtain ⟨x, e1, e⟩ := bind_some e
  cases e
  exact ⟨H0, av0, av, ρ, x, c, e1, fun H1 k1 => k H1 k1⟩
/-! ### and, or, not as values -/
theorem fe_one {op} (h : FE X M e f) : FE X M (.BoolOp op [e] pos) f := pe_one h
theorem fe_and {rest : List Expr} (ha : FE X M a f) (hb : FE X M (.BoolOp .And (b :: rest) pos) h) : FE X M (.BoolOp .And (a :: b :: rest) pos) (cAndV f h) := PE.imp (pe_and ha hb) fun σ H Q q => by
  obtain ⟨H0, av0, av, ρ, d, c, e, k⟩ := q
  obtain ⟨x, e1, e⟩ := bind_some e
  obtain ⟨y, e2, e⟩ := bind_some e
  refine ⟨H0, av0, av, ρ, x, c, e1, fun v H1 k1 b1 => ?_⟩
  unfold asB at e2
  split at e2
  · cases e2
    cases b1
    refine ⟨_, rfl, ?_⟩
    cases y with
    | true => exact ⟨H0, av0, av, ρ, d, c.mono k1, e, fun v H2 k2 b2 => k v H2 (k1.trans k2) b2⟩
    | false => cases e; exact k _ H1 k1 (.bl false)
  · cases e2
theorem fe_or {rest : List Expr} (ha : FE X M a f) (hb : FE X M (.BoolOp .Or (b :: rest) pos) h) : FE X M (.BoolOp .Or (a :: b :: rest) pos) (cOrV f h) := PE.imp (pe_or ha hb) fun σ H Q q => by
  obtain ⟨H0, av0, av, ρ, d, c, e, k⟩ := q
  obtain ⟨x, e1, e⟩ := bind_some e
  obtain ⟨y, e2, e⟩ := bind_some e
  refine ⟨H0, av0, av, ρ, x, c, e1, fun v H1 k1 b1 => ?_⟩
  unfold asB at e2
  split at e2
  · cases e2
    cases b1
    refine ⟨_, rfl, ?_⟩
    cases y with
    | false => exact ⟨H0, av0, av, ρ, d, c.mono k1, e, fun v H2 k2 b2 => k v H2 (k1.trans k2) b2⟩
    | true => cases e; exact k _ H1 k1 (.bl true)
  · cases e2
theorem fe_not (ha : FE X M a f) : FE X M (.UnaryOp .Not a pos) (c1 notD f) := PE.imp (pe_not ha) fun σ H Q q => by
  obtain ⟨H0, av0, av, ρ, d, c, e, k⟩ := q
  obtain ⟨x, e1, e⟩ := bind_some e
  refine ⟨H0, av0, av, ρ, x, c, e1, fun v H1 k1 b1 => ?_⟩
  obtain ⟨y, e2, e⟩ := bind_some e
  cases e
  unfold asB at e2
  split at e2
  · cases e2
    cases b1
    exact ⟨_, rfl, k _ H1 k1 (.bl _)⟩
  · cases e2
theorem fe_if {c : Expr} {t : BF} (hc : FT X M c t) (ha : FE X M a f) (hb : FE X M b h) : FE X M (.IfExp c a b pos) (cIf t f h) := PE.imp (pe_ifExp hc ha hb) fun σ H Q q => by
  obtain ⟨H0, av0, av, ρ, d, c, e, k⟩ := q
  obtain ⟨x, e1, e⟩ := bind_some e
  refine ⟨H0, av0, av, ρ, x, c, e1, fun H1 k1 => ?_⟩
  cases x with
  | true => exact ⟨H0, av0, av, ρ, d, c.mono k1, e, fun v H2 k2 b2 => k v H2 (k1.trans k2) b2⟩
  | false => exact ⟨H0, av0, av, ρ, d, c.mono k1, e, fun v H2 k2 b2 => k v H2 (k1.trans k2) b2⟩
end
end G

namespace G
open PySem PySem.Spec PyProof.Rows L2

/-! ## fresh lists -/
def andA (av : Av) (p : Addr) : Av := fun a => av a ∨ a = p
section
variable (K : PySem.W.Frag) (M : Mem)
/-- a list that nobody else has -/
def tN (f : LF) : TE := fun σ H Q => ∃ H0 av0 av ρ ds, Cor K M H0 av0 av H σ ρ ∧ f ρ = some ds ∧ ∀ a xs H', Kp M noA H H' → H a = none → H' a = some (.lst xs) → BrL K M (andA av a) H' xs ds → Q (.ref a) H'
end
abbrev FN (X : Cx) (M : Mem) (e : Expr) (f : LF) : Prop := PE X e (tN X.K M f)
def cL (f : LF) : EF := fun ρ => (f ρ).bind fun ds => some (.list ds)
def lim : Nat := 16777216
theorem lim_ok {n : Nat} (h : n ≤ lim) : n ≤ sizeLine := by rw [sizeLine_eq]; exact h
section
variable {X : Cx} {M : Mem} {a b e : Expr} {pos : Pos}
theorem andA_new {av : Av} {H : Hp} {p : Addr} (h : H p = none) : ∀ a, andA av p a → av a ∨ H a = none := fun a z => z.imp id fun (e : a = p) => by rw [e]; exact h
theorem fe_new {f : LF} (h : FN X M e f) : FE X M e (cL f) := PE.imp h fun σ H Q q => by
  obtain ⟨H0, av0, av, ρ, d, c, e, k⟩ := q
  obtain ⟨ds, e1, e⟩ := bind_some e
  cases e
  exact ⟨H0, av0, av, ρ, ds, c, e1, fun a xs H' k1 n1 h1 b1 => k _ H' k1 (.lst h1 (fun z => c.dom _ z n1) (b1.weak fun c z => .inl (.inl z)))⟩
def chk (n : Nat) (f : LF) : LF := fun ρ => (f ρ).bind fun ds => if ds.length ≤ n then some ds else none
theorem fn_lst {es : List Expr} {r : LF} (hM : MemOk M) (ha : FA X M es r) : FN X M (.List es pos) (chk 1000 r) := PE.imp (pe_lst ha) fun σ H Q q => by
  obtain ⟨H0, av0, av, ρ, d, c, e, k⟩ := q
  obtain ⟨xs, e1, e⟩ := bind_some e
  split at e
  · rename_i hl
    cases e
    refine ⟨H0, av0, av, ρ, _, c, e1, fun vs H1 k1 b1 => ⟨?_, fun p hp => ?_⟩⟩
    · rw [b1.length]; exact small1000' hl
    · exact k _ _ _ (k1.trans (Kp.new hM hp)) (k1.dom _ hp) upd_same ((b1.weak (andA_new hp)).mono (Kp.new hM hp).of)
  · cases e
/-- a + b of lists -/
def cCat (f h : EF) : LF := fun ρ => (f ρ).bind fun x => (h ρ).bind fun y => match x, y with
  | .list xs, .list ys => if xs.length + ys.length ≤ lim then some (xs ++ ys) else none
  | _, _ => none
theorem fn_cat {f h : EF} (hM : MemOk M) (ha : FK X M a f) (hb : FK X M b h) : FN X M (.BinOp a .Add b pos) (cCat f h) := PE.imp (pe_op op_cat ha hb) fun σ H Q q => by
  obtain ⟨H0, av0, av, ρ, d, c, e, k⟩ := q
  obtain ⟨x, e1, e⟩ := bind_some e
  obtain ⟨y, e2, e⟩ := bind_some e
  refine ⟨H0, av0, av, ρ, x, c, e1, fun v H1 k1 b1 => ?_⟩
  refine ⟨H0, av0, av, ρ, y, c.mono k1, e2, fun w H2 k2 b2 => ?_⟩
  split at e
  · rename_i xs ys
    split at e
    · rename_i hl
      cases e
      obtain ⟨p, us, rfl, hp, r1⟩ := (b1.mono k2).list
      obtain ⟨q, ws, rfl, hq, r2⟩ := b2.list
      refine ⟨p, q, us, ws, rfl, rfl, hp, hq, ?_, fun l hl => ?_⟩
      · rw [r1.length, r2.length]; exact lim_ok (by assumption)
      · have kn := Kp.new (o := HO.lst (us ++ ws)) hM hl
        exact k _ _ _ ((k1.trans k2).trans kn) ((k1.trans k2).dom _ hl) upd_same (((r1.append r2).weak (andA_new hl)).mono kn.of)
    · cases e
  · cases e
end

/-! ## targets -/
abbrev GF := D → Ev → Option Ev
abbrev GsF := List D → Ev → Option Ev
section
variable (K : PySem.W.Frag) (M : Mem)
def tG (g : GF) (vs : List Nat) : TG := fun v σ H Q => ∃ H0 av0 av ρ d ρ', Cor K M H0 av0 av H σ ρ ∧ Br K M av H v d ∧ g d ρ = some ρ' ∧ ∀ σ', L2.wipe σ' vs = L2.wipe σ vs → Cor K M H0 av0 av H σ' ρ' → Q σ' H
def tGs (g : GsF) (vs : List Nat) : TGs := fun us σ H Q => ∃ H0 av0 av ρ ds ρ', Cor K M H0 av0 av H σ ρ ∧ BrL K M av H us ds ∧ g ds ρ = some ρ' ∧ ∀ σ', L2.wipe σ' vs = L2.wipe σ vs → Cor K M H0 av0 av H σ' ρ' → Q σ' H
end
abbrev FG (X : Cx) (M : Mem) (e : Expr) (g : GF) (vs : List Nat) : Prop := PG X e (tG X.K M g vs)
abbrev FGs (X : Cx) (M : Mem) (e : List Expr) (g : GsF) (vs : List Nat) : Prop := PGs X e (tGs X.K M g vs)
theorem PG.imp {X : Cx} {e : Expr} {t t' : TG} (h : PG X e t) (i : ∀ v σ H Q, t' v σ H Q → t v σ H Q) : PG X e t' := ⟨fun pins s σ H v u Q I r q => h.run pins s σ H v u Q I r (i _ _ _ _ q)⟩
theorem PGs.imp {X : Cx} {e : List Expr} {t t' : TGs} (h : PGs X e t) (i : ∀ v σ H Q, t' v σ H Q → t v σ H Q) : PGs X e t' := ⟨fun pins s σ H v u Q I r q => h.run pins s σ H v u Q I r (i _ _ _ _ q)⟩
def gV (i : Nat) : GF := fun d ρ => some (ρ.set i (.va d))
def gN : GsF := fun ds ρ => match ds with
  | [] => some ρ
  | _ => none
def gC (g : GF) (r : GsF) : GsF := fun ds ρ => match ds with
  | d :: t => (g d ρ).bind fun ρ1 => r t ρ1
  | _ => none
def gT (n : Nat) (g : GsF) : GF := fun d ρ => match d with
  | .tuple ds => if ds.length = n then g ds ρ else none
  | _ => none
theorem wipe_get (σ : L2.St) : ∀ (vs : List Nat) (i : Nat), (L2.wipe σ vs)[i]? = if i ∈ vs ∧ i < σ.length then some none else σ[i]?
  | [], i => by simp [L2.wipe]
  | v :: vs, i => by
    unfold L2.wipe
    by_cases h : v = i
    · subst h
      by_cases hl : v < σ.length
      · rw [List.getElem?_set_self (by rw [wipe_length]; exact hl)]
        simp [hl]
      · rw [List.getElem?_eq_none (by rw [List.length_set, wipe_length]; omega), if_neg (by simp [hl]), List.getElem?_eq_none (by omega)]
    · rw [List.getElem?_set_ne h, wipe_get σ vs i]
      have : (i ∈ v :: vs) ↔ i ∈ vs := by simp [List.mem_cons, Ne.symm h]
      simp only [this]
theorem wipe_set (σ : L2.St) {i : Nat} {x : Option V} {vs : List Nat} (h : i ∈ vs) : L2.wipe (σ.set i x) vs = L2.wipe σ vs := by
  apply List.ext_getElem?
  intro j
  rw [wipe_get, wipe_get, List.length_set]
  by_cases hj : i = j
  · subst hj
    by_cases hl : i < σ.length
    · rw [if_pos ⟨h, hl⟩, if_pos ⟨h, hl⟩]
    · rw [if_neg (fun z => hl z.2), if_neg (fun z => hl z.2), List.set_eq_of_length_le (by omega)]
  · rw [List.getElem?_set_ne hj]
theorem wipe_wipe (σ : L2.St) (vs : List Nat) : L2.wipe (L2.wipe σ vs) vs = L2.wipe σ vs := by
  apply List.ext_getElem?
  intro j
  rw [wipe_get, wipe_get, wipe_length]
  split <;> rfl
theorem wipe_sub {σ σ' : L2.St} {vs ws : List Nat} (hs : ∀ v ∈ vs, v ∈ ws) (h : L2.wipe σ' vs = L2.wipe σ vs) : L2.wipe σ' ws = L2.wipe σ ws := by
  have hl : σ'.length = σ.length := by rw [← wipe_length σ' vs, h, wipe_length]
  apply List.ext_getElem?
  intro j
  have e : (L2.wipe σ' vs)[j]? = (L2.wipe σ vs)[j]? := congrArg (fun l : L2.St => l[j]?) h
  rw [wipe_get, wipe_get, hl] at e
  rw [wipe_get, wipe_get, hl]
  by_cases h1 : j ∈ ws ∧ j < σ.length
  · rw [if_pos h1, if_pos h1]
  · rw [if_neg h1, if_neg h1]
    have h2 : ¬ (j ∈ vs ∧ j < σ.length) := fun z => h1 ⟨hs j z.1, z.2⟩
    rw [if_neg h2, if_neg h2] at e
    exact e
section
variable {X : Cx} {M : Mem} {e : Expr} {pos : Pos}
theorem fg_name {i : Nat} (h : PG X e (gName i)) : FG X M e (gV i) [i] := PG.imp h fun v σ H Q q => by
  obtain ⟨H0, av0, av, ρ, d, ρ', c, b, e1, k⟩ := q
  cases e1
  exact k _ (wipe_set σ (by simp)) (c.setVa b)
theorem fgs_nil : FGs X M [] gN [] := PGs.imp pgs_nil fun v σ H Q q => by
  obtain ⟨H0, av0, av, ρ, d, ρ', c, b, e1, k⟩ := q
  unfold gN at e1
  split at e1
  · cases e1
    cases b
    exact ⟨rfl, k σ rfl c⟩
  · cases e1
theorem fgs_cons {es : List Expr} {g : GF} {r : GsF} {vs ws : List Nat} (h1 : FG X M e g vs) (h2 : FGs X M es r ws) (hs : (assignEach (e :: es) X.env).map (·.2) = assign e X.env :: (assignEach es X.env).map (·.2) := by rfl) : FGs X M (e :: es) (gC g r) (vs ++ ws) := PGs.imp (pgs_cons h1 h2 hs) fun us σ H Q q => by
  obtain ⟨H0, av0, av, ρ, ds, ρ', c, b, e1, k⟩ := q
  unfold gC at e1
  split at e1
  · obtain ⟨ρ1, e2, e1⟩ := bind_some e1
    cases b with
    | cons b bs =>
      refine ⟨_, _, rfl, H0, av0, av, ρ, _, ρ1, c, b, e2, fun σ1 w1 c1 => ?_⟩
      refine ⟨H0, av0, av, ρ1, _, ρ', c1, bs, e1, fun σ2 w2 c2 => ?_⟩
      refine k σ2 ?_ c2
      exact (wipe_sub (fun v hv => List.mem_append_right _ hv) w2).trans (wipe_sub (fun v hv => List.mem_append_left _ hv) w1)
  · cases e1
theorem fg_tup {es : List Expr} {g : GsF} {vs : List Nat} {n k : Nat} (hc : X.calm = true) (h : FGs X M es g vs) (hn : (assignEach es X.env).length = n := by rfl) (hst : (assignEach es X.env).findIdx? (·.1) = none := by rfl) : FG X M (.Tuple es k pos) (gT n g) vs := PG.imp (pg_tup hc h hn hst) fun v σ H Q q => by
  obtain ⟨H0, av0, av, ρ, d, ρ', c, b, e1, k⟩ := q
  unfold gT at e1
  split at e1
  · split at e1
    · rename_i hl
      cases b with
      | tup hx r => exact ⟨_, _, rfl, SqT.of hx, r.length.trans hl, H0, av0, av, ρ, _, ρ', c, r, e1, k⟩
    · cases e1
  · cases e1
end

/-! ## statements -/
inductive Out where
  | nx (ρ : Ev)
  | rt (d : D)
  | bk (ρ : Ev)
  | ct (ρ : Ev)
abbrev SF := Ev → Option Out
section
variable (K : PySem.W.Frag) (M : Mem)
/-- behind a statement -/
def Aft (H0 : Hp) (av0 av : Av) (H : Hp) (ρ' : Ev) (Q : L2.St → Hp → Prop) : Prop :=
  ∀ av' σ' H', Kp M av H H' → (∀ a, av' a → av a ∨ H a = none) → Cor K M H0 av0 av' H' σ' ρ' → Q σ' H'
def OutOk (H0 : Hp) (av0 av : Av) (H : Hp) (D : Ends) : Out → Prop
  | .nx ρ' => Aft K M H0 av0 av H ρ' D.nx
  | .rt d => ∀ v H', Kp M noA H0 H' → Br K M av0 H' v d → D.rt v H'
  | .bk ρ' => Aft K M H0 av0 av H ρ' D.bk
  | .ct ρ' => Aft K M H0 av0 av H ρ' D.ct
def tS (F : SF) : TS := fun D σ H => ∃ H0 av0 av ρ o, Cor K M H0 av0 av H σ ρ ∧ F ρ = some o ∧ OutOk K M H0 av0 av H D o
end
abbrev FS (X : Cx) (M : Mem) (e : Stmt) (F : SF) : Prop := PS X e (tS X.K M F)
abbrev FSs (X : Cx) (M : Mem) (e : List Stmt) (F : SF) : Prop := PSs X e (tS X.K M F)
def cNext : SF := fun ρ => some (.nx ρ)
def cBrk : SF := fun ρ => some (.bk ρ)
def cCnt : SF := fun ρ => some (.ct ρ)
def cSeq (F G : SF) : SF := fun ρ => (F ρ).bind fun o => match o with
  | .nx ρ' => G ρ'
  | o => some o
def cAsg (f : EF) (g : GF) : SF := fun ρ => (f ρ).bind fun d => (g d ρ).bind fun ρ' => some (.nx ρ')
def cRet (f : EF) : SF := fun ρ => (f ρ).bind fun d => some (.rt d)
def cDrop (f : EF) : SF := fun ρ => (f ρ).bind fun _ => some (.nx ρ)
def cIfS (t : BF) (F G : SF) : SF := fun ρ => (t ρ).bind fun b => if b = true then F ρ else G ρ
def cOwn (i : Nat) (f : LF) : SF := fun ρ => (f ρ).bind fun ds => some (.nx (ρ.set i (.ow ds)))
/-- own no more -/
def cFrz (i : Nat) : SF := fun ρ => match ρ[i]? with
  | some (.ow ds) => some (.nx (ρ.set i (.va (.list ds))))
  | _ => none
def cApp (i : Nat) (f : EF) : SF := fun ρ => match ρ[i]? with
  | some (.ow ds) => (f ρ).bind fun d => if ds.length < lim then some (.nx (ρ.set i (.ow (ds ++ [d])))) else none
  | _ => none
def cExt (i : Nat) (f : EF) : SF := fun ρ => match ρ[i]? with
  | some (.ow ds) => (f ρ).bind fun d => match d with
    | .list es => if ds.length + es.length ≤ lim then some (.nx (ρ.set i (.ow (ds ++ es)))) else none
    | _ => none
  | _ => none
def cPut (i : Nat) (f h : EF) : SF := fun ρ => (f ρ).bind fun d => match ρ[i]? with
  | some (.ow ds) => (h ρ).bind fun k => match k with
    | .int k => (ixN ds.length k).bind fun j => some (.nx (ρ.set i (.ow (ds.set j d))))
    | _ => none
  | _ => none
def cNever : SF := fun _ => none

section
variable {K : PySem.W.Frag} {M : Mem} {H0 : Hp} {av0 av av' : Av} {H H' : Hp} {σ : L2.St} {ρ ρ' : Ev} {Q : L2.St → Hp → Prop} {Dn : Ends} {o : Out}
theorem Kp.step {H2 : Hp} (k1 : Kp M av H H') (s : ∀ a, av' a → av a ∨ H a = none) (k2 : Kp M av' H' H2) : Kp M av H H2 :=
  ⟨fun a xs n e => k2.lst a xs (fun z => (s a z).elim n fun q => by rw [q] at e; cases e) (k1.lst a xs n e), fun a o u e => k2.frz a o u (k1.frz a o u e), fun a xs e => k2.tup a xs (k1.tup a xs e), fun k a e => k2.mm k a (k1.mm k a e), fun a e => k1.dom a (k2.dom a e)⟩
theorem sub_step {av2 : Av} (k1 : Kp M av H H') (s : ∀ a, av' a → av a ∨ H a = none) (s2 : ∀ a, av2 a → av' a ∨ H' a = none) : ∀ a, av2 a → av a ∨ H a = none :=
  fun a z => (s2 a z).elim (s a) fun e => .inr (k1.dom a e)
theorem Aft.step (k1 : Kp M av H H') (s : ∀ a, av' a → av a ∨ H a = none) (h : Aft K M H0 av0 av H ρ' Q) : Aft K M H0 av0 av' H' ρ' Q :=
  fun av2 σ2 H2 k2 s2 c2 => h av2 σ2 H2 (k1.step s k2) (sub_step k1 s s2) c2
theorem OutOk.step (k1 : Kp M av H H') (s : ∀ a, av' a → av a ∨ H a = none) (h : OutOk K M H0 av0 av H Dn o) : OutOk K M H0 av0 av' H' Dn o := by
  cases o with
  | nx ρ' => exact Aft.step k1 s h
  | rt d => exact h
  | bk ρ' => exact Aft.step k1 s h
  | ct ρ' => exact Aft.step k1 s h
theorem sub_refl : ∀ a, av a → av a ∨ H a = none := fun _ z => .inl z
theorem Aft.now (h : Aft K M H0 av0 av H ρ' Q) {σ' : L2.St} (k : Kp M noA H H') (c : Cor K M H0 av0 av H' σ' ρ') : Q σ' H' := h av σ' H' k.of sub_refl c
/-- a slot is filled with a list that is owned from now on -/
theorem Cor.setOw (c : Cor K M H0 av0 av H σ ρ) {i : Nat} {a : Addr} {xs : List V} {ds : List D} (k : Kp M noA H H') (n : H a = none) (e : H' a = some (.lst xs)) (b : BrL K M (andA av a) H' xs ds) : Cor K M H0 av0 (andA av a) H' (σ.set i (some (.ref a))) (ρ.set i (.ow ds)) := by
  have n0 : H0 a = none := c.kp.dom a n
  have na : ¬ av a := fun z => c.dom a z n
  have old : ∀ {x : Option V} {s : Sl}, SlOk K M H0 av0 av H x s → SlOk K M H0 av0 (andA av a) H' x s := fun {x s} o => by
    cases s with
    | no => trivial
    | va d => obtain ⟨v, e, b⟩ := o; exact ⟨v, e, (b.weak (andA_new n)).mono k.of⟩
    | ow ds => obtain ⟨p, ys, e, h1, h2, h3, h4, b⟩ := o; exact ⟨p, ys, e, .inl h1, h2, h3, k.lst _ _ (fun z => z) h4, (b.weak (andA_new n)).mono k.of⟩
  have key : ∀ {j : Nat} {s : Sl}, (ρ.set i (.ow ds))[j]? = some s → (i ≠ j ∧ ρ[j]? = some s) ∨ (i = j ∧ s = .ow ds ∧ i < ρ.length) := fun {j s} e => by
    by_cases h : i = j
    · subst h
      have hl : i < ρ.length := by
        have := (List.getElem?_eq_some_iff.mp e).1
        simpa using this
      rw [List.getElem?_set_self hl] at e
      cases e
      exact .inr ⟨rfl, rfl, hl⟩
    · rw [List.getElem?_set_ne h] at e
      exact .inl ⟨h, e⟩
  have ownA : ∀ {j : Nat} {es : List D} {p : Addr}, ρ[j]? = some (.ow es) → σ[j]? = some (some (.ref p)) → p ≠ a := fun {j es p} e1 e2 z => by
    obtain ⟨x, e3, p', ys, rfl, h1, _⟩ := c.slot _ _ e1
    rw [e2] at e3
    cases e3
    rw [z] at h1
    exact na h1
  refine ⟨c.kp.trans k, fun p z => ?_, fun p z => .inl (c.sub p z), by rw [List.length_set, List.length_set]; exact c.len, fun j s g => ?_, fun j l es fs p e1 e2 e3 e4 => ?_⟩
  · rcases z with z | z
    · exact fun q => c.dom p z (k.dom p q)
    · rw [z, e]; exact fun q => nomatch q
  · rcases key g with ⟨h, g⟩ | ⟨h, rfl, hl⟩
    · obtain ⟨x, e1, o⟩ := c.slot j s g
      exact ⟨x, by rw [List.getElem?_set_ne h]; exact e1, old o⟩
    · subst h
      exact ⟨some (.ref a), by rw [List.getElem?_set_self (by rw [c.len]; exact hl)], a, xs, rfl, .inr rfl, fun z => na (c.sub a z), n0, e, b⟩
  · rcases key e1 with ⟨n1, g1⟩ | ⟨n1, _, hl1⟩
    · rcases key e2 with ⟨n2, g2⟩ | ⟨n2, _, hl2⟩
      · rw [List.getElem?_set_ne n1] at e3
        rw [List.getElem?_set_ne n2] at e4
        exact c.sep j l es fs p g1 g2 e3 e4
      · rw [List.getElem?_set_ne n1] at e3
        subst n2
        rw [List.getElem?_set_self (by rw [c.len]; exact hl2)] at e4
        cases e4
        exact absurd rfl (ownA g1 e3)
    · subst n1
      rw [List.getElem?_set_self (by rw [c.len]; exact hl1)] at e3
      cases e3
      rcases key e2 with ⟨n2, g2⟩ | ⟨n2, _, hl2⟩
      · rw [List.getElem?_set_ne n2] at e4
        exact absurd rfl (ownA g2 e4)
      · exact n2
/-- an owned list is written -/
theorem Cor.write (hM : MemOk M) (c : Cor K M H0 av0 av H σ ρ) {i : Nat} {a : Addr} {xs ys : List V} {ds es : List D} (hM2 : ∀ k p, M H k p → M (upd H a (.lst ys)) k p) (h1 : ρ[i]? = some (.ow ds)) (h2 : σ[i]? = some (some (.ref a))) (hx : H a = some (.lst xs)) (b : BrL K M av H ys es) :
    Kp M av H (upd H a (.lst ys)) ∧ Cor K M H0 av0 av (upd H a (.lst ys)) σ (ρ.set i (.ow es)) := by
  obtain ⟨x, e3, p', zs, rfl, ha, na0, n0, hx', _⟩ := c.slot _ _ h1
  rw [h2] at e3
  cases e3
  have kw : Kp M av H (upd H a (.lst ys)) := by
    refine ⟨fun p us n e => ?_, fun p o u e => ?_, fun p us e => ?_, hM2, fun p e => ?_⟩
    · rw [upd_ne (fun z => n (by rw [z]; exact ha))]; exact e
    · rw [upd_ne (ne_of e hx (fun z => nomatch z))]; exact e
    · rw [upd_ne (ne_of e hx (fun z => nomatch z))]; exact e
    · by_cases z : p = a
      · subst z; rw [upd_same] at e; cases e
      · rw [upd_ne z] at e; exact e
  have hl : i < ρ.length := (List.getElem?_eq_some_iff.mp h1).1
  refine ⟨kw, ?_⟩
  refine ⟨⟨fun p us n e => ?_, fun p o u e => ?_, fun p us e => ?_, fun k p e => kw.mm k p (c.kp.mm k p e), fun p e => c.kp.dom p (kw.dom p e)⟩, fun p z e => c.dom p z (kw.dom p e), c.sub, by rw [List.length_set]; exact c.len, fun j s g => ?_, fun j l es' fs p e1 e2 e3 e4 => ?_⟩
  · have ne : p ≠ a := fun z => by rw [z, n0] at e; cases e
    rw [upd_ne ne]
    exact c.kp.lst p us (fun z => z) e
  · exact kw.frz p o u (c.kp.frz p o u e)
  · exact kw.tup p us (c.kp.tup p us e)
  · by_cases h : i = j
    · subst h
      rw [List.getElem?_set_self hl] at g
      cases g
      exact ⟨_, h2, a, ys, rfl, ha, na0, n0, upd_same, b.mono kw⟩
    · rw [List.getElem?_set_ne h] at g
      obtain ⟨x, e1, o⟩ := c.slot j s g
      refine ⟨x, e1, ?_⟩
      cases s with
      | no => trivial
      | va d => obtain ⟨v, e, b⟩ := o; exact ⟨v, e, b.mono kw⟩
      | ow us =>
        obtain ⟨p, zs, rfl, q1, q2, q3, q4, b⟩ := o
        have ne : p ≠ a := fun z => h (c.sep i j ds us a h1 g h2 (z ▸ e1))
        exact ⟨p, zs, rfl, q1, q2, q3, by rw [upd_ne ne]; exact q4, b.mono kw⟩
  · have key : ∀ {j : Nat} {fs : List D}, (ρ.set i (.ow es))[j]? = some (.ow fs) → ∃ gs, ρ[j]? = some (.ow gs) := fun {j fs} e => by
      by_cases h : i = j
      · subst h; exact ⟨ds, h1⟩
      · rw [List.getElem?_set_ne h] at e; exact ⟨fs, e⟩
    obtain ⟨_, g1⟩ := key e1
    obtain ⟨_, g2⟩ := key e2
    exact c.sep j l _ _ p g1 g2 e3 e4
/-- an owned list is owned no more -/
theorem Cor.frz (c : Cor K M H0 av0 av H σ ρ) {i : Nat} {ds : List D} (h1 : ρ[i]? = some (.ow ds)) : ∃ av', (∀ a, av' a → av a) ∧ Cor K M H0 av0 av' H σ (ρ.set i (.va (.list ds))) := by
  obtain ⟨x, e3, a, xs, rfl, ha, na0, n0, hx, b⟩ := c.slot _ _ h1
  have hl : i < ρ.length := (List.getElem?_eq_some_iff.mp h1).1
  have wk : ∀ {p : Addr}, (av p ∧ p ≠ a) → av p ∨ H p = none := fun z => .inl z.1
  refine ⟨fun p => av p ∧ p ≠ a, fun p z => z.1, c.kp, fun p z => c.dom p z.1, fun p z => ⟨c.sub p z, fun q => na0 (q ▸ z)⟩, by rw [List.length_set]; exact c.len, fun j s g => ?_, fun j l es fs p e1 e2 e5 e6 => ?_⟩
  · by_cases h : i = j
    · subst h
      rw [List.getElem?_set_self hl] at g
      cases g
      exact ⟨_, e3, _, rfl, .lst hx (fun z => z.2 rfl) (b.weak fun p z => wk z)⟩
    · rw [List.getElem?_set_ne h] at g
      obtain ⟨x, e1, o⟩ := c.slot j s g
      refine ⟨x, e1, ?_⟩
      cases s with
      | no => trivial
      | va d => obtain ⟨v, e, b⟩ := o; exact ⟨v, e, b.weak fun p z => wk z⟩
      | ow us =>
        obtain ⟨p, zs, rfl, q1, q2, q3, q4, b⟩ := o
        have ne : p ≠ a := fun z => h (c.sep i j ds us a h1 g e3 (z ▸ e1))
        exact ⟨p, zs, rfl, ⟨q1, ne⟩, q2, q3, q4, b.weak fun p z => wk z⟩
  · have key : ∀ {j : Nat} {fs : List D}, (ρ.set i (.va (.list ds)))[j]? = some (.ow fs) → ρ[j]? = some (.ow fs) := fun {j fs} e => by
      by_cases h : i = j
      · subst h; rw [List.getElem?_set_self hl] at e; cases e
      · rw [List.getElem?_set_ne h] at e; exact e
    exact c.sep j l _ _ p (key e1) (key e2) e5 e6
end
/-- the kept tables are no lists -/
def MemW (M : Mem) : Prop := ∀ H a xs ys k p, H a = some (.lst xs) → M H k p → M (upd H a (.lst ys)) k p

section
variable {X : Cx} {M : Mem} {a b e : Expr} {f h : EF} {F G' : SF} {pos : Pos} {st : Stmt} {rest : List Stmt}
theorem fss_nil : FSs X M [] cNext := PSs.imp pss_nil fun Dn σ H q => by
  obtain ⟨H0, av0, av, ρ, o, c, e, k⟩ := q
  cases e
  exact Aft.now k Kp.refl c
theorem fss_cons (h1 : FS X M st F) (h2 : FSs X M rest G') : FSs X M (st :: rest) (cSeq F G') := PSs.imp (pss_cons h1 h2) fun Dn σ H q => by
  obtain ⟨H0, av0, av, ρ, o, c, e, k⟩ := q
  obtain ⟨o1, e1, e⟩ := bind_some e
  refine ⟨H0, av0, av, ρ, o1, c, e1, ?_⟩
  cases o1 with
  | nx ρ' => exact fun av' σ' H' k1 s1 c1 => ⟨H0, av0, av', ρ', o, c1, e, OutOk.step k1 s1 k⟩
  | rt d => cases e; exact k
  | bk ρ' => cases e; exact k
  | ct ρ' => cases e; exact k
theorem fss_one (h1 : FS X M st F) : FSs X M [st] F := pss_one h1
theorem fss_frz (i : Nat) {ss : List Stmt} (h : FSs X M ss F) : FSs X M ss (cSeq (cFrz i) F) := PSs.imp h fun Dn σ H q => by
  obtain ⟨H0, av0, av, ρ, o, c, e, k⟩ := q
  obtain ⟨o1, e1, e⟩ := bind_some e
  unfold cFrz at e1
  split at e1
  · rename_i ds h1
    cases e1
    obtain ⟨av', s, c'⟩ := c.frz h1
    exact ⟨H0, av0, av', _, o, c', e, OutOk.step Kp.refl (fun a z => .inl (s a z)) k⟩
  · cases e1
theorem fs_pass : FS X M (.Pass pos) cNext := PS.imp ps_pass fun Dn σ H q => by
  obtain ⟨H0, av0, av, ρ, o, c, e, k⟩ := q
  cases e
  exact Aft.now k Kp.refl c
theorem fs_break : FS X M (.Break pos) cBrk := PS.imp ps_break fun Dn σ H q => by
  obtain ⟨H0, av0, av, ρ, o, c, e, k⟩ := q
  cases e
  exact Aft.now k Kp.refl c
theorem fs_continue : FS X M (.Continue pos) cCnt := PS.imp ps_continue fun Dn σ H q => by
  obtain ⟨H0, av0, av, ρ, o, c, e, k⟩ := q
  cases e
  exact Aft.now k Kp.refl c
theorem fs_never : FS X M st cNever := PS.imp ps_never fun Dn σ H q => by
  obtain ⟨H0, av0, av, ρ, o, c, e, k⟩ := q
  cases e
theorem fs_ret (he : FE X M e f) : FS X M (.Return (some e) pos) (cRet f) := PS.imp (ps_ret he) fun Dn σ H q => by
  obtain ⟨H0, av0, av, ρ, o, c, e, k⟩ := q
  obtain ⟨d, e1, e⟩ := bind_some e
  cases e
  exact ⟨H0, av0, av, ρ, d, c, e1, fun v H1 k1 b1 => k v H1 (c.kp.trans k1) (b1.weak fun a z => .inl (c.sub a z))⟩
theorem fs_if {c : Expr} {t : BF} {as bs : List Stmt} (hc : FT X M c t) (ha : FSs X M as F) (hb : FSs X M bs G') : FS X M (.If c as bs pos) (cIfS t F G') := PS.imp (ps_if hc ha hb) fun Dn σ H q => by
  obtain ⟨H0, av0, av, ρ, o, c, e, k⟩ := q
  obtain ⟨x, e1, e⟩ := bind_some e
  refine ⟨H0, av0, av, ρ, x, c, e1, fun H1 k1 => ?_⟩
  cases x with
  | true => exact ⟨H0, av0, av, ρ, o, c.mono k1, e, OutOk.step k1.of sub_refl k⟩
  | false => exact ⟨H0, av0, av, ρ, o, c.mono k1, e, OutOk.step k1.of sub_refl k⟩
theorem fs_expr (he : FE X M e f) (hs : swapsWith e none pos.line X.env = pure false := by rfl) : FS X M (.Expr e pos) (cDrop f) := PS.imp (ps_expr he hs) fun Dn σ H q => by
  obtain ⟨H0, av0, av, ρ, o, c, e, k⟩ := q
  obtain ⟨d, e1, e⟩ := bind_some e
  cases e
  exact ⟨H0, av0, av, ρ, d, c, e1, fun v H1 k1 b1 => Aft.now k k1 (c.mono k1)⟩
/-- target = value -/
theorem asg_of {t : Stmt} {g : GF} {vs : List Nat} (h : PS X t (tAsg (tE X.K M f) (tG X.K M g vs))) : FS X M t (cAsg f g) := PS.imp h fun Dn σ H q => by
  obtain ⟨H0, av0, av, ρ, o, c, e, k⟩ := q
  obtain ⟨d, e1, e⟩ := bind_some e
  obtain ⟨ρ', e2, e⟩ := bind_some e
  cases e
  exact ⟨H0, av0, av, ρ, d, c, e1, fun v H1 k1 b1 => ⟨H0, av0, av, ρ, d, ρ', c.mono k1, b1, e2, fun σ' _ c' => Aft.now k k1 c'⟩⟩
theorem fs_asg {tg : Expr} {g : GF} {vs : List Nat} (he : FE X M e f) (hg : FG X M tg g vs) (hs : swapsWithSole [tg] e pos.line X.env = pure false := by rfl) (hw : swappedStores [tg] e X.env = pure none := by rfl)
    (h1 : (assignEach [tg] X.env).map (·.2) = [assign tg X.env] := by rfl) : FS X M (.Assign [tg] e pos) (cAsg f g) := asg_of (ps_asg he hg hs hw h1)
theorem fs_set {i : Nat} {tg : Stmt} (h : PS X tg (tAsg (tE X.K M f) (gName i))) : FS X M tg (cAsg f (gV i)) := asg_of (vs := [i]) (PS.imp h fun Dn σ H q => by
  obtain ⟨H0, av0, av, ρ, d, c, e1, k⟩ := q
  exact ⟨H0, av0, av, ρ, d, c, e1, fun v H1 k1 b1 => by
    obtain ⟨H0, av0, av, ρ, d, ρ', c, b, e1, k⟩ := k v H1 k1 b1
    cases e1
    exact k _ (wipe_set σ (by simp)) (c.setVa b)⟩)
theorem own_of {i : Nat} {tg : Stmt} {r : LF} (h : PS X tg (tAsg (tN X.K M r) (gName i))) : FS X M tg (cOwn i r) := PS.imp h fun Dn σ H q => by
  obtain ⟨H0, av0, av, ρ, o, c, e, k⟩ := q
  obtain ⟨ds, e1, e⟩ := bind_some e
  cases e
  exact ⟨H0, av0, av, ρ, ds, c, e1, fun a xs H1 k1 n1 h1 b1 => k _ _ H1 k1.of (andA_new n1) (c.setOw k1 n1 h1 b1)⟩
/-- owned.append(e) -/
theorem fs_app {i : Nat} {te : TE} {t : Stmt} (hM : MemOk M) (hW : MemW M) (h : PS X t (tDrop (tBM X.K "list" rAppend (tVar i) (tA X.K M (cCons f cNil))))) : FS X M t (cApp i f) := PS.imp h fun Dn σ H q => by
  obtain ⟨H0, av0, av, ρ, o, c, e, k⟩ := q
  unfold cApp at e
  split at e
  · rename_i ds h1
    obtain ⟨d, e1, e⟩ := bind_some e
    split at e
    · rename_i hl
      cases e
      obtain ⟨x, e3, a, xs, rfl, ha, na0, n0, hx, b⟩ := c.slot _ _ h1
      refine ⟨.ref a, e3, .inl ⟨rfl, xs, SqL.of hx⟩, H0, av0, av, ρ, [d], c, ?_, fun vs H1 k1 b1 => ?_⟩
      · unfold cCons cNil; rw [e1]; rfl
      · cases b1 with
        | cons b1 r1 =>
          cases r1
          have hx1 := k1.lst _ _ (fun z => z) hx
          refine ⟨a, xs, _, rfl, rfl, hx1, ?_, ?_⟩
          · rw [b.length, sizeLine_eq]; exact hl
          · obtain ⟨kw, c2⟩ := (c.mono k1).write hM (fun k p z => hW _ _ _ _ k p hx1 z) h1 e3 hx1 ((b.mono k1.of).append (.cons b1 .nil))
            exact k av σ _ (k1.of.trans kw) sub_refl c2
    · cases e
  · cases e
/-- owned.extend(e) -/
theorem fs_ext {i : Nat} {te : TE} {t : Stmt} (hM : MemOk M) (hW : MemW M) (h : PS X t (tDrop (tBM X.K "list" rExtend (tVar i) (tA X.K M (cCons f cNil))))) : FS X M t (cExt i f) := PS.imp h fun Dn σ H q => by
  obtain ⟨H0, av0, av, ρ, o, c, e, k⟩ := q
  unfold cExt at e
  split at e
  · rename_i ds h1
    obtain ⟨d, e1, e⟩ := bind_some e
    split at e
    · split at e
      · rename_i es hl
        cases e
        obtain ⟨x, e3, a, xs, rfl, ha, na0, n0, hx, b⟩ := c.slot _ _ h1
        refine ⟨.ref a, e3, .inl ⟨rfl, xs, SqL.of hx⟩, H0, av0, av, ρ, [.list es], c, ?_, fun vs H1 k1 b1 => ?_⟩
        · unfold cCons cNil; rw [e1]; rfl
        · cases b1 with
          | cons b1 r1 =>
            cases r1
            cases b1 with
            | lst hz nz rz =>
              have hx1 := k1.lst _ _ (fun z => z) hx
              refine ⟨a, _, xs, _, rfl, rfl, hx1, hz, ?_, ?_⟩
              · rw [b.length, rz.length]; exact lim_ok hl
              · obtain ⟨kw, c2⟩ := (c.mono k1).write hM (fun k p z => hW _ _ _ _ k p hx1 z) h1 e3 hx1 ((b.mono k1.of).append rz)
                exact k av σ _ (k1.of.trans kw) sub_refl c2
      · cases e
    · cases e
  · cases e
/-- owned[k] = e -/
theorem fs_put {i : Nat} {t : Stmt} (hM : MemOk M) (hW : MemW M) (hp : PS X t (tAsg (tE X.K M f) (gSub (tVar i) (tE X.K M h) rSetL))) : FS X M t (cPut i f h) := PS.imp hp fun Dn σ H q => by
  obtain ⟨H0, av0, av, ρ, o, c, e, k⟩ := q
  obtain ⟨d, e1, e⟩ := bind_some e
  split at e
  · rename_i ds h1
    obtain ⟨y, e2, e⟩ := bind_some e
    split at e
    · obtain ⟨j, e4, e⟩ := bind_some e
      cases e
      refine ⟨H0, av0, av, ρ, d, c, e1, fun v H1 k1 b1 => ?_⟩
      obtain ⟨x, e3, a, xs, rfl, ha, na0, n0, hx, b⟩ := c.slot _ _ h1
      refine ⟨.ref a, e3, H0, av0, av, ρ, _, c.mono k1, e2, fun w H2 k2 b2 => ?_⟩
      cases b2
      have hx2 := (k1.trans k2).lst _ _ (fun z => z) hx
      refine ⟨a, xs, _, j, rfl, rfl, hx2, by rw [b.length]; exact e4, ?_⟩
      obtain ⟨kw, c2⟩ := (c.mono (k1.trans k2)).write hM (fun k p z => hW _ _ _ _ k p hx2 z) h1 e3 hx2 ((b.mono (k1.trans k2).of).set (b1.mono k2.of) j)
      exact k av σ _ ((k1.trans k2).of.trans kw) sub_refl c2
    · cases e
  · cases e
end
end G

namespace G
open PySem PySem.Spec PyProof.Rows L2

/-! ## what is walked -/
section
variable (K : PySem.W.Frag) (M : Mem)
/-- J yields ds, at any later state that has not touched what stands at H' outside av -/
def Wk (av : Av) (J : It) (H' : Hp) (ds : List D) : Prop := ∀ (i : Nat) (av' : Av) (H2 : Hp), (∀ a, av' a → av a ∨ H' a = none) → (∀ a, av' a → H2 a ≠ none) → Kp M av H' H2 →
  (∀ d, ds[i]? = some d → J.go i H2 ∧ ∀ x H3, J.yld i H2 x H3 → Kp M noA H2 H3 ∧ Br K M av' H3 x d) ∧ (ds[i]? = none → J.stop i H2)
def tI (f : LF) : TI := fun σ H R => ∃ H0 av0 av ρ ds, Cor K M H0 av0 av H σ ρ ∧ f ρ = some ds ∧ ∀ J H', Kp M noA H H' → Wk K M av J H' ds → R J H'
end
section
variable (K : PySem.W.Frag) (M : Mem)
/-- the same, where nothing at all is written in the meantime -/
def Wk0 (av : Av) (J : It) (H' : Hp) (ds : List D) : Prop := ∀ (i : Nat) (av' : Av) (H2 : Hp), (∀ a, av' a → av a ∨ H' a = none) → (∀ a, av' a → H2 a ≠ none) → Kp M noA H' H2 →
  (∀ d, ds[i]? = some d → J.go i H2 ∧ ∀ x H3, J.yld i H2 x H3 → Kp M noA H2 H3 ∧ Br K M av' H3 x d) ∧ (ds[i]? = none → J.stop i H2)
def tI0 (f : LF) : TI := fun σ H R => ∃ H0 av0 av ρ ds, Cor K M H0 av0 av H σ ρ ∧ f ρ = some ds ∧ ∀ J H', Kp M noA H H' → Wk0 K M av J H' ds → R J H'
end
abbrev FI0 (X : Cx) (M : Mem) (tg e : Expr) (f : LF) : Prop := PI X tg e (tI0 X.K M f)
abbrev FI (X : Cx) (M : Mem) (tg e : Expr) (f : LF) : Prop := PI X tg e (tI X.K M f)
theorem PI.imp {X : Cx} {tg e : Expr} {t t' : TI} (h : PI X tg e t) (i : ∀ σ H Q, t' σ H Q → t σ H Q) : PI X tg e t' := ⟨fun pins s σ H R I q => h.run pins s σ H R I (i _ _ _ q)⟩
section
variable {K : PySem.W.Frag} {M : Mem} {av av' : Av} {H H' H2 : Hp}
/-- a datum outside av, at a later state, outside av' too -/
theorem Br.later {v : V} {d : D} (b : Br K M av H' v d) (s : ∀ a, av' a → av a ∨ H' a = none) (k : Kp M av H' H2) : Br K M av' H2 v d := by
  have b1 : Br K M (fun a => av a ∨ av' a) H' v d := b.weak fun a z => z.elim .inl (s a)
  exact (b1.mono (k.weak fun a z => .inl z)).weak fun a z => .inl (.inr z)
theorem BrL.later {v : List V} {d : List D} (b : BrL K M av H' v d) (s : ∀ a, av' a → av a ∨ H' a = none) (k : Kp M av H' H2) : BrL K M av' H2 v d := by
  have b1 : BrL K M (fun a => av a ∨ av' a) H' v d := b.weak fun a z => z.elim .inl (s a)
  exact (b1.mono (k.weak fun a z => .inl z)).weak fun a z => .inl (.inr z)
theorem BrL.none_of {vs : List V} {ds : List D} {i : Nat} (b : BrL K M av H vs ds) (e : ds[i]? = none) : vs.length ≤ i := by
  rw [b.length]; exact List.getElem?_eq_none_iff.mp e
end
def itD : D → Option (List D)
  | .list ds => some ds
  | .tuple ds => some ds
  | _ => none
def cIt (f : EF) : LF := fun ρ => (f ρ).bind fun d => match d with
  | .list ds => some ds
  | _ => none
def cItT (f : EF) : LF := fun ρ => (f ρ).bind fun d => match d with
  | .tuple ds => some ds
  | _ => none
def scrL : List (D × D) → Option (List D)
  | [] => some []
  | (.int n, .none) :: r => (scrL r).bind fun ds => some (.int n :: ds)
  | _ => none
theorem scrL_of : ∀ ns : List Int, scrL (ns.map fun n => (PyData.int n, PyData.none)) = some (ns.map PyData.int)
  | [] => rfl
  | n :: r => by
    show (scrL (r.map fun n => (PyData.int n, PyData.none))).bind _ = _
    rw [scrL_of r]; rfl
section
variable {X : Cx} {M : Mem} {tg e e2 : Expr} {f h : EF} {pos : Pos}
theorem wk_list {K : PySem.W.Frag} {av : Av} {a : Addr} {xs : List V} {ds : List D} {H' : Hp} (hx : H' a = some (.lst xs)) (n : ¬ av a) (b : BrL K M av H' xs ds) : Wk K M av (Itl K a) H' ds := by
  intro i av' H2 s hd k
  have h2 : H2 a = some (.lst xs) := k.lst a xs n hx
  refine ⟨fun d e => ?_, fun e => ⟨xs, SqL.of h2, b.none_of e⟩⟩
  obtain ⟨v, e1, bv⟩ := b.get e
  refine ⟨⟨xs, v, SqL.of h2, e1⟩, fun x H3 y => ?_⟩
  obtain ⟨rfl, y⟩ := y
  have e2 := y xs (SqL.of h2)
  rw [e1] at e2
  cases e2
  exact ⟨Kp.refl, bv.later s k⟩
theorem wk_tup {K : PySem.W.Frag} {av : Av} {a : Addr} {xs : List V} {ds : List D} {H' : Hp} (hx : H' a = some (.tup xs)) (b : BrL K M av H' xs ds) : Wk K M av (Itt K a) H' ds := by
  intro i av' H2 s hd k
  have h2 : H2 a = some (.tup xs) := k.tup a xs hx
  refine ⟨fun d e => ?_, fun e => ⟨xs, SqT.of h2, b.none_of e⟩⟩
  obtain ⟨v, e1, bv⟩ := b.get e
  refine ⟨⟨xs, v, SqT.of h2, e1⟩, fun x H3 y => ?_⟩
  obtain ⟨rfl, y⟩ := y
  have e2 := y xs (SqT.of h2)
  rw [e1] at e2
  cases e2
  exact ⟨Kp.refl, bv.later s k⟩
theorem FI.zero {f : LF} (h : FI X M tg e f) : FI0 X M tg e f := PI.imp h fun σ H R q => by
  obtain ⟨H0, av0, av, ρ, ds, c, e, k⟩ := q
  exact ⟨H0, av0, av, ρ, ds, c, e, fun J H' k1 wk => k J H' k1 fun i av' H2 s hd k2 => wk i av' H2 s hd k2.of⟩
theorem Br.later0 {K : PySem.W.Frag} {av av' : Av} {H' H2 : Hp} {v : V} {d : D} (b : Br K M av H' v d) (s : ∀ a, av' a → av a ∨ H' a = none) (k : Kp M noA H' H2) : Br K M av' H2 v d := b.later s k.of
theorem wk0_list {K : PySem.W.Frag} {av : Av} {a : Addr} {xs : List V} {ds : List D} {H' : Hp} (hx : H' a = some (.lst xs)) (b : BrL K M av H' xs ds) : Wk0 K M av (Itl K a) H' ds := by
  intro i av' H2 s hd k
  have h2 : H2 a = some (.lst xs) := k.lst a xs (fun z => z) hx
  refine ⟨fun d e => ?_, fun e => ⟨xs, SqL.of h2, b.none_of e⟩⟩
  obtain ⟨v, e1, bv⟩ := b.get e
  refine ⟨⟨xs, v, SqL.of h2, e1⟩, fun x H3 y => ?_⟩
  obtain ⟨rfl, y⟩ := y
  have e2 := y xs (SqL.of h2)
  rw [e1] at e2
  cases e2
  exact ⟨Kp.refl, bv.later s k.of⟩
theorem fi0_list (he : FK X M e f) : FI0 X M tg e (cIt f) := PI.imp (pi_list he) fun σ H R q => by
  obtain ⟨H0, av0, av, ρ, ds, c, e, k⟩ := q
  obtain ⟨d, e1, e⟩ := bind_some e
  split at e
  · cases e
    refine ⟨H0, av0, av, ρ, _, c, e1, fun v H1 k1 b1 => ?_⟩
    obtain ⟨a, xs, rfl, hx, b⟩ := b1.list
    exact ⟨_, rfl, ⟨_, SqL.of hx⟩, k _ _ k1 (wk0_list hx b)⟩
  · cases e
theorem fi_list (he : FE X M e f) : FI X M tg e (cIt f) := PI.imp (pi_list he) fun σ H R q => by
  obtain ⟨H0, av0, av, ρ, ds, c, e, k⟩ := q
  obtain ⟨d, e1, e⟩ := bind_some e
  split at e
  · cases e
    refine ⟨H0, av0, av, ρ, _, c, e1, fun v H1 k1 b1 => ?_⟩
    cases b1 with
    | lst hx n b => exact ⟨_, rfl, ⟨_, SqL.of hx⟩, k _ _ k1 (wk_list hx n b)⟩
  · cases e
theorem fi_tup (he : FE X M e f) : FI X M tg e (cItT f) := PI.imp (pi_tup he) fun σ H R q => by
  obtain ⟨H0, av0, av, ρ, ds, c, e, k⟩ := q
  obtain ⟨d, e1, e⟩ := bind_some e
  split at e
  · cases e
    refine ⟨H0, av0, av, ρ, _, c, e1, fun v H1 k1 b1 => ?_⟩
    cases b1 with
    | tup hx b => exact ⟨_, rfl, ⟨_, SqT.of hx⟩, k _ _ k1 (wk_tup hx b)⟩
  · cases e
/-! ### ranges -/
def rgL (lo : Int) (n : Nat) : List D := (List.range n).map fun i => .int (lo + (i : Nat))
theorem wk_range {K : PySem.W.Frag} {av : Av} {H' : Hp} (lo : Int) (n : Nat) : Wk K M av (Itr lo n) H' (rgL lo n) := by
  intro i av' H2 s hd k
  refine ⟨fun d e => ?_, fun e => ?_⟩
  · have hi : i < n := by
      have := (List.getElem?_eq_some_iff.mp e).1
      simpa [rgL] using this
    refine ⟨hi, fun x H3 y => ?_⟩
    obtain ⟨rfl, rfl⟩ := y
    have e' : d = .int (lo + (i : Nat)) := by
      unfold rgL at e
      rw [List.getElem?_map, List.getElem?_range hi] at e
      exact (Option.some.inj e).symm
    rw [e']
    exact ⟨Kp.refl, .int _⟩
  · have := List.getElem?_eq_none_iff.mp e
    show n ≤ i
    simpa [rgL] using this
def cRg1 (f : EF) : LF := fun ρ => (f ρ).bind fun d => match d with
  | .int n => if -(2 ^ 62) ≤ n ∧ n < 2 ^ 62 then some (rgL 0 n.toNat) else none
  | _ => none
def cRg2 (f h : EF) : LF := fun ρ => (f ρ).bind fun d => (h ρ).bind fun e => match d, e with
  | .int m, .int n => if -(2 ^ 62) ≤ m ∧ m < 2 ^ 62 ∧ -(2 ^ 62) ≤ n ∧ n < 2 ^ 62 then some (rgL m (n - m).toNat) else none
  | _, _ => none
theorem fi_range1 {p : Pos} (hg : Gl X "range") (hm : X.mg "range" = none) (ha : FE X M e f) (hs : starEach [e] X.env = [(false, eval e X.env)] := by rfl) : FI X M tg (.Call (.Name "range" p) [e] [] pos) (cRg1 f) :=
  PI.imp (pi_range1 hg hm (fa_cons ha fa_nil (hs.trans rfl)) hs) fun σ H R q => by
    obtain ⟨H0, av0, av, ρ, ds, c, e, k⟩ := q
    obtain ⟨d, e1, e⟩ := bind_some e
    split at e
    · rename_i n
      split at e
      · rename_i hb
        cases e
        refine ⟨H0, av0, av, ρ, [.int n], c, ?_, fun vs H1 k1 b1 => ?_⟩
        · unfold cCons cNil; rw [e1]; rfl
        · cases b1 with
          | cons b r =>
            cases r
            cases b
            exact ⟨_, rfl, hb.1, hb.2, k _ _ k1 (wk_range 0 _)⟩
      · cases e
    · cases e
theorem fi_range2 {p : Pos} (hg : Gl X "range") (hm : X.mg "range" = none) (ha : FE X M e f) (hb : FE X M e2 h) (hs : starEach [e, e2] X.env = [(false, eval e X.env), (false, eval e2 X.env)] := by rfl) (hs2 : starEach [e2] X.env = [(false, eval e2 X.env)] := by rfl) :
    FI X M tg (.Call (.Name "range" p) [e, e2] [] pos) (cRg2 f h) :=
  PI.imp (pi_range2 hg hm (fa_cons ha (fa_cons hb fa_nil (hs2.trans rfl)) (hs.trans (by rw [hs2]))) hs hs2) fun σ H R q => by
    obtain ⟨H0, av0, av, ρ, ds, c, e, k⟩ := q
    obtain ⟨d, e1, e⟩ := bind_some e
    obtain ⟨d2, e2, e⟩ := bind_some e
    split at e
    · rename_i m n _
      split at e
      · rename_i hb
        cases e
        refine ⟨H0, av0, av, ρ, [.int m, .int n], c, ?_, fun vs H1 k1 b1 => ?_⟩
        · unfold cCons cNil; rw [e1, e2]; rfl
        · cases b1 with
          | cons b r =>
            cases r with
            | cons b' r =>
              cases r
              cases b
              cases b'
              exact ⟨_, _, rfl, hb, k _ _ k1 (wk_range _ _)⟩
      · cases e
    · cases e
/-- range(a, b, -1) -/
theorem wk_rangeD {K : PySem.W.Frag} {av : Av} {H' : Hp} : True := trivial
/-! ### enumerate, zip -/
def enL (n : Nat) : List D → List D
  | [] => []
  | d :: ds => .tuple [.int (n : Nat), d] :: enL (n + 1) ds
theorem enL_get : ∀ (ds : List D) (n i : Nat), (enL n ds)[i]? = (ds[i]?).map fun d => .tuple [.int ((n + i : Nat) : Int), d]
  | [], n, i => by simp [enL]
  | d :: ds, n, 0 => by simp [enL]
  | d :: ds, n, i + 1 => by
    show (enL (n + 1) ds)[i]? = _
    rw [enL_get ds (n + 1) i]
    have : n + 1 + i = n + (i + 1) := by omega
    simp [this]
def cEn (f : EF) : LF := fun ρ => (f ρ).bind fun d => match d with
  | .list ds => some (enL 0 ds)
  | _ => none
theorem fi_enum {p tpos : Pos} {elts : List Expr} {kk : Nat} (hM : MemOk M) (hg : Gl X "enumerate") (hm : X.mg "enumerate" = none) (ha : FE X M e f) (hs : starEach [e] X.env = [(false, eval e X.env)] := by rfl) :
    FI X M (.Tuple elts kk tpos) (.Call (.Name "enumerate" p) [e] [] pos) (cEn f) :=
  PI.imp (pi_enum hg hm (fa_cons ha fa_nil (hs.trans rfl)) hs) fun σ H R q => by
    obtain ⟨H0, av0, av, ρ, ds, c, e, k⟩ := q
    obtain ⟨d, e1, e⟩ := bind_some e
    split at e
    · rename_i es
      cases e
      refine ⟨H0, av0, av, ρ, [.list es], c, ?_, fun vs H1 k1 b1 => ?_⟩
      · unfold cCons cNil; rw [e1]; rfl
      · cases b1 with
        | cons b r =>
          cases r
          cases b with
          | lst hx n b =>
            rename_i a xs
            refine ⟨_, _, rfl, SqL.of hx, k _ _ k1 ?_⟩
            intro i av' H2 s hd kk
            have h2 : H2 a = some (.lst xs) := kk.lst a xs n hx
            refine ⟨fun d g => ?_, fun g => ?_⟩
            · rw [enL_get] at g
              cases g1 : es[i]? with
              | none => rw [g1] at g; cases g
              | some d1 =>
                rw [g1] at g
                cases g
                obtain ⟨v, e1, bv⟩ := b.get g1
                refine ⟨⟨xs, v, SqL.of h2, e1⟩, fun x H3 y => ?_⟩
                obtain ⟨T, x1, rfl, nT, rfl, fx⟩ := y
                have e2 := fx xs (SqL.of h2)
                rw [e1] at e2
                cases e2
                have kn := Kp.new (o := HO.tup [.int (i : Nat), v]) hM nT
                refine ⟨kn, .tup upd_same (.cons ?_ (.cons ((bv.later s kk).mono kn.of) .nil))⟩
                rw [Nat.zero_add]
                exact .int _
            · rw [enL_get] at g
              cases g1 : es[i]? with
              | none => exact ⟨xs, SqL.of h2, b.none_of g1⟩
              | some d1 => rw [g1] at g; cases g
    · cases e
def zipL : List D → List D → List D
  | x :: xs, y :: ys => .tuple [x, y] :: zipL xs ys
  | _, _ => []
theorem zipL_get : ∀ (xs ys : List D) (i : Nat), (zipL xs ys)[i]? = match xs[i]?, ys[i]? with
    | some x, some y => some (.tuple [x, y])
    | _, _ => none
  | [], ys, i => by simp [zipL]
  | x :: xs, [], i => by
    simp only [zipL, List.getElem?_nil]
    split <;> simp_all
  | x :: xs, y :: ys, 0 => by simp [zipL]
  | x :: xs, y :: ys, i + 1 => by
    show (zipL xs ys)[i]? = _
    rw [zipL_get xs ys i]
    simp
end

/-! ## for -/
def forL (g : GF) (B : SF) : List D → SF
  | [] => fun ρ => some (.nx ρ)
  | d :: ds => fun ρ => (g d ρ).bind fun ρ1 => (B ρ1).bind fun o => match o with
    | .nx ρ' => forL g B ds ρ'
    | .ct ρ' => forL g B ds ρ'
    | .bk ρ' => some (.nx ρ')
    | .rt d => some (.rt d)
def cFor (it : LF) (g : GF) (B : SF) : SF := fun ρ => (it ρ).bind fun ds => forL g B ds ρ
section
variable {X : Cx} {M : Mem} {tg e iter : Expr} {f h : EF} {pos : Pos} {body : List Stmt}
theorem fs_for {it : LF} {g : GF} {vs : List Nat} {B : SF} (hp : PassesOwn (model X.prog X.w) X.A X.env X.xe) (hc : X.calm = true) (hi : FI X M tg iter it) (hg : FG X M tg g vs) (hb : FSs X M body B)
    (hs : ∀ x, foldedSetIterable iter X.env x = pure x := by intro _; rfl) : FS X M (.For tg iter body [] pos) (cFor it g B) := PS.imp (ps_for hp hc hi hg hb hs) fun Dn σ H q => by
  obtain ⟨H0, av0, av, ρ, o, c, e, post⟩ := q
  obtain ⟨ds, e1, e⟩ := bind_some e
  refine ⟨H0, av0, av, ρ, ds, c, e1, fun J H1 k1 wk => ?_⟩
  refine ⟨fun i m σ' H' => m = ds.length - i ∧ i ≤ ds.length ∧ ∃ av' ρ', Kp M av H1 H' ∧ (∀ a, av' a → av a ∨ H1 a = none) ∧ Cor X.K M H0 av0 av' H' σ' ρ' ∧ forL g B (ds.drop i) ρ' = some o, ⟨ds.length, by simp, Nat.zero_le _, av, ρ, Kp.refl, sub_refl, c.mono k1, by simpa using e⟩, ?_⟩
  rintro i m σ' H' ⟨rfl, hi, av', ρ', k2, s2, c2, e2⟩
  have w := wk i av' H' s2 c2.dom k2
  have post1 : OutOk X.K M H0 av0 av H1 Dn o := OutOk.step k1.of sub_refl post
  have post2 : OutOk X.K M H0 av0 av' H' Dn o := OutOk.step k2 s2 post1
  cases g1 : ds[i]? with
  | none =>
    refine .inl ⟨w.2 g1, ?_⟩
    have : ds.drop i = [] := List.drop_eq_nil_of_le (List.getElem?_eq_none_iff.mp g1)
    rw [this] at e2
    cases e2
    exact Aft.now post2 Kp.refl c2
  | some d =>
    obtain ⟨hlt, hd⟩ := List.getElem?_eq_some_iff.mp g1
    have hdr : ds.drop i = d :: ds.drop (i + 1) := by rw [List.drop_eq_getElem_cons hlt, hd]
    rw [hdr] at e2
    obtain ⟨ρ1, e3, e2⟩ := bind_some e2
    obtain ⟨o1, e4, e2⟩ := bind_some e2
    refine .inr ⟨(w.1 d g1).1, fun σ'' H'' => ∃ m', m' < ds.length - i ∧ m' = ds.length - (i + 1) ∧ i + 1 ≤ ds.length ∧ ∃ av' ρ', Kp M av H1 H'' ∧ (∀ a, av' a → av a ∨ H1 a = none) ∧ Cor X.K M H0 av0 av' H'' σ'' ρ' ∧ forL g B (ds.drop (i + 1)) ρ' = some o, fun σ'' H'' ⟨m', h1, h2⟩ => ⟨m', h1, h2⟩, fun x H3 y => ?_⟩
    obtain ⟨k3, b3⟩ := (w.1 d g1).2 x H3 y
    refine ⟨H0, av0, av', ρ', d, ρ1, c2.mono k3, b3, e3, fun σ4 _ c4 => ?_⟩
    refine ⟨H0, av0, av', ρ1, o1, c4, e4, ?_⟩
    have again : ∀ ρ2 : Ev, forL g B (ds.drop (i + 1)) ρ2 = some o → Aft X.K M H0 av0 av' H3 ρ2 (fun σ'' H'' => ∃ m', m' < ds.length - i ∧ m' = ds.length - (i + 1) ∧ i + 1 ≤ ds.length ∧ ∃ av' ρ', Kp M av H1 H'' ∧ (∀ a, av' a → av a ∨ H1 a = none) ∧ Cor X.K M H0 av0 av' H'' σ'' ρ' ∧ forL g B (ds.drop (i + 1)) ρ' = some o) :=
      fun ρ2 e5 av5 σ5 H5 k5 s5 c5 => ⟨_, by omega, rfl, hlt, av5, ρ2, (k2.trans k3.of).step (fun a z => s2 a z) k5, sub_step (k2.trans k3.of) s2 s5, c5, e5⟩
    cases o1 with
    | nx ρ2 => exact again ρ2 e2
    | ct ρ2 => exact again ρ2 e2
    | bk ρ2 =>
      cases e2
      exact Aft.step k3.of sub_refl post2
    | rt d2 => cases e2; exact post2
end

/-! ## while -/
def whileN (t : BF) (B : SF) : Nat → SF
  | 0 => fun _ => none
  | n + 1 => fun ρ => (t ρ).bind fun b => if b = true then (B ρ).bind fun o => match o with
    | .nx ρ' => whileN t B n ρ'
    | .ct ρ' => whileN t B n ρ'
    | .bk ρ' => some (.nx ρ')
    | .rt d => some (.rt d)
    else some (.nx ρ)
section
variable {X : Cx} {M : Mem} {e : Expr} {pos : Pos} {body : List Stmt}
theorem fs_while (n : Nat) {t : BF} {B : SF} (hp : PassesOwn (model X.prog X.w) X.A X.env X.xe) (hc : FT X M e t) (hb : FSs X M body B) : FS X M (.While e body [] pos) (whileN t B n) := PS.imp (ps_while hp hc hb) fun Dn σ H q => by
  obtain ⟨H0, av0, av, ρ, o, c, e, post⟩ := q
  refine ⟨fun m σ' H' => ∃ av' ρ', Kp M av H H' ∧ (∀ a, av' a → av a ∨ H a = none) ∧ Cor X.K M H0 av0 av' H' σ' ρ' ∧ whileN t B m ρ' = some o, ⟨n, av, ρ, Kp.refl, sub_refl, c, e⟩, ?_⟩
  rintro m σ' H' ⟨av', ρ', k2, s2, c2, e2⟩
  have post2 : OutOk X.K M H0 av0 av' H' Dn o := OutOk.step k2 s2 post
  cases m with
  | zero => cases e2
  | succ m =>
    obtain ⟨b, e3, e2⟩ := bind_some e2
    refine ⟨H0, av0, av', ρ', b, c2, e3, fun H3 k3 => ?_⟩
    cases b with
    | false =>
      cases e2
      exact Aft.now post2 k3 (c2.mono k3)
    | true =>
      rw [if_pos rfl] at e2 ⊢
      obtain ⟨o1, e4, e2⟩ := bind_some e2
      refine ⟨fun σ'' H'' => ∃ av' ρ', Kp M av H H'' ∧ (∀ a, av' a → av a ∨ H a = none) ∧ Cor X.K M H0 av0 av' H'' σ'' ρ' ∧ whileN t B m ρ' = some o, fun σ'' H'' h => ⟨m, Nat.lt_succ_self m, h⟩, ?_⟩
      refine ⟨H0, av0, av', ρ', o1, c2.mono k3, e4, ?_⟩
      have again : ∀ ρ2 : Ev, whileN t B m ρ2 = some o → Aft X.K M H0 av0 av' H3 ρ2 (fun σ'' H'' => ∃ av' ρ', Kp M av H H'' ∧ (∀ a, av' a → av a ∨ H a = none) ∧ Cor X.K M H0 av0 av' H'' σ'' ρ' ∧ whileN t B m ρ' = some o) :=
        fun ρ2 e5 av5 σ5 H5 k5 s5 c5 => ⟨av5, ρ2, (k2.trans k3.of).step (fun a z => s2 a z) k5, sub_step (k2.trans k3.of) s2 s5, c5, e5⟩
      cases o1 with
      | nx ρ2 => exact again ρ2 e2
      | ct ρ2 => exact again ρ2 e2
      | bk ρ2 => cases e2; exact Aft.step k3.of sub_refl post2
      | rt d2 => cases e2; exact post2
end

/-! ## comprehensions -/
def lcL (ρ : Ev) (g : GF) (t : BF) (f : EF) : List D → Option (List D)
  | [] => some []
  | d :: ds => (g d ρ).bind fun ρ1 => (t ρ1).bind fun b => if b = true then (f ρ1).bind fun y => (lcL ρ g t f ds).bind fun ys => some (y :: ys) else lcL ρ g t f ds
def cLc (it : LF) (vs : List Nat) (g : GF) (t : BF) (f : EF) : LF := fun ρ => (it ρ).bind fun ds => if ds.length ≤ lim then lcL (wipeE ρ vs) g t f ds else none
def cYes : BF := fun _ => some true
abbrev FTs (X : Cx) (M : Mem) (es : List Expr) (t : BF) : Prop := PTs X es (tT X.K M t)
section
variable {X : Cx} {M : Mem} {tg e iter elt : Expr} {pos : Pos} {ifs : List Expr}
theorem PTs.imp {X : Cx} {e : List Expr} {t t' : TT} (h : PTs X e t) (i : ∀ σ H Q, t' σ H Q → t σ H Q) : PTs X e t' := ⟨fun pins s σ H Q I q => h.run pins s σ H Q I (i _ _ _ q)⟩
theorem fts_nil : FTs X M [] cYes := PTs.imp pts_nil fun σ H Q q => by
  obtain ⟨H0, av0, av, ρ, d, c, e, k⟩ := q
  cases e
  exact k H Kp.refl
theorem fts_one {t : BF} (h : FT X M e t) : FTs X M [e] t := pts_one h
theorem lc_read (hM : MemOk M) (hW : MemW M) {it : LF} {g : GF} {t : BF} {f : EF} {vs ws : List Nat} (hv : ∀ v ∈ vs, v ∈ ws) {σ : L2.St} {H : Hp} {Q : VK} (q : tN X.K M (cLc it ws g t f) σ H Q) : tLc (tI0 X.K M it) (tG X.K M g vs) (tT X.K M t) (tE X.K M f) ws σ H Q := by
  obtain ⟨H0, av0, av, ρ, rs, c, e, post⟩ := q
  obtain ⟨ds, e1, e⟩ := bind_some e
  split at e
  · rename_i hlim
    refine ⟨H0, av0, av, ρ, ds, c, e1, fun J H1 k1 wk D hD => ?_⟩
    have c1 := c.mono k1
    -- what is left to make, and what is made
    refine ⟨fun i m H' => m = ds.length - i ∧ i ≤ ds.length ∧ Kp M noA H1 H' ∧ ∃ acc as rest, H' D = some (.lst acc) ∧ acc.length ≤ i ∧ BrL X.K M (andA av D) H' acc as ∧ lcL (wipeE ρ ws) g t f (ds.drop i) = some rest ∧ rs = as ++ rest,
      ⟨ds.length, by simp, Nat.zero_le _, Kp.new hM hD, [], [], rs, upd_same, Nat.le_refl _, .nil, by simpa using e, rfl⟩, ?_⟩
    rintro i m H' ⟨rfl, hi, k2, acc, as, rest, hA, hl, bA, e2, e3⟩
    have nd : ∀ a, andA av D a → av a ∨ H1 a = none := andA_new hD
    have c2 : Cor X.K M H0 av0 av H' σ ρ := c1.mono k2
    have cD : Cor X.K M H0 av0 (andA av D) H' (L2.wipe σ ws) (wipeE ρ ws) := by
      refine Cor.wipe ⟨c2.kp, fun a z => ?_, fun a z => .inl (c2.sub a z), c2.len, fun j s g => ?_, c2.sep⟩ ws
      · rcases z with z | z
        · exact c2.dom a z
        · rw [z, hA]; exact fun q => nomatch q
      · obtain ⟨x, g1, o⟩ := c1.slot j s g
        refine ⟨x, g1, ?_⟩
        cases s with
        | no => trivial
        | va d => obtain ⟨v, e, b⟩ := o; exact ⟨v, e, (b.weak nd).mono k2.of⟩
        | ow us => obtain ⟨p, ys, e, h1, h2, h3, h4, b⟩ := o; exact ⟨p, ys, e, .inl h1, h2, h3, k2.lst _ _ (fun z => z) h4, (b.weak nd).mono k2.of⟩
    have w := wk i (andA av D) H' nd cD.dom k2
    cases g1 : ds[i]? with
    | none =>
      refine .inl ⟨w.2 g1, ?_⟩
      have : ds.drop i = [] := List.drop_eq_nil_of_le (List.getElem?_eq_none_iff.mp g1)
      rw [this] at e2
      cases e2
      rw [List.append_nil] at e3
      subst e3
      exact post D acc H' (k1.trans k2) (k1.dom D hD) hA bA
    | some d =>
      obtain ⟨hlt, hd⟩ := List.getElem?_eq_some_iff.mp g1
      have hdr : ds.drop i = d :: ds.drop (i + 1) := by rw [List.drop_eq_getElem_cons hlt, hd]
      rw [hdr] at e2
      obtain ⟨ρ1, e4, e2⟩ := bind_some e2
      obtain ⟨b, e5, e2⟩ := bind_some e2
      refine .inr ⟨(w.1 d g1).1, fun H'' => i + 1 ≤ ds.length ∧ Kp M noA H1 H'' ∧ ∃ acc as rest, H'' D = some (.lst acc) ∧ acc.length ≤ i + 1 ∧ BrL X.K M (andA av D) H'' acc as ∧ lcL (wipeE ρ ws) g t f (ds.drop (i + 1)) = some rest ∧ rs = as ++ rest, fun H'' h => ⟨ds.length - (i + 1), by omega, rfl, h⟩, fun x H3 y => ?_⟩
      obtain ⟨k3, b3⟩ := (w.1 d g1).2 x H3 y
      refine ⟨H0, av0, andA av D, wipeE ρ ws, d, ρ1, cD.mono k3, b3, e4, fun σ4 w4 c4 => ?_⟩
      refine ⟨?_, ?_⟩
      · rw [wipe_sub hv w4, wipe_wipe]
      refine ⟨H0, av0, andA av D, ρ1, b, c4, e5, fun H4 k4 => ?_⟩
      have k24 : Kp M noA H1 H4 := (k2.trans k3).trans k4
      have hA4 : H4 D = some (.lst acc) := k4.lst _ _ (fun z => z) (k3.lst _ _ (fun z => z) hA)
      have bA4 := (bA.mono k3.of).mono k4.of
      cases b with
      | false =>
        rw [if_neg (by decide)] at e2
        refine iteF ?_
        exact ⟨hlt, k24, acc, as, rest, hA4, by omega, bA4, e2, e3⟩
      | true =>
        rw [if_pos rfl] at e2
        refine iteT ?_
        obtain ⟨z, e6, e2⟩ := bind_some e2
        obtain ⟨zs, e7, e2⟩ := bind_some e2
        cases e2
        refine ⟨H0, av0, andA av D, ρ1, z, c4.mono k4, e6, fun v H5 k5 b5 => ?_⟩
        have hA5 : H5 D = some (.lst acc) := k5.lst _ _ (fun z => z) hA4
        have k15 : Kp M noA H1 H5 := k24.trans k5
        have kw : Kp M (andA av D) H5 (upd H5 D (.lst (acc ++ [v]))) := by
          refine ⟨fun p us n e => ?_, fun p o u e => ?_, fun p us e => ?_, fun k p e => hW _ _ _ _ k p hA5 e, fun p e => ?_⟩
          · rw [upd_ne (fun z => n (.inr z))]; exact e
          · rw [upd_ne (ne_of e hA5 (fun z => nomatch z))]; exact e
          · rw [upd_ne (ne_of e hA5 (fun z => nomatch z))]; exact e
          · by_cases z : p = D
            · subst z; rw [upd_same] at e; cases e
            · rw [upd_ne z] at e; exact e
        refine ⟨acc, hA5, ?_, hlt, ?_, acc ++ [v], as ++ [z], zs, upd_same, ?_, ?_, e7, ?_⟩
        · rw [sizeLine_eq]
          have : ds.length ≤ 16777216 := hlim
          omega
        · refine ⟨fun p us n e => ?_, fun p o u e => kw.frz p o u (k15.frz p o u e), fun p us e => kw.tup p us (k15.tup p us e), fun k p e => kw.mm k p (k15.mm k p e), fun p e => k15.dom p (kw.dom p e)⟩
          rw [upd_ne (ne_of_none e hD)]
          exact k15.lst p us n e
        · rw [List.length_append]
          show acc.length + 1 ≤ i + 1
          omega
        · exact ((bA4.mono k5.of).append (.cons b5 .nil)).mono kw
        · rw [e3, List.append_assoc]; rfl
  · cases e
theorem fn_lc {scope : Scope} {own : List (Str × Nat)} {it : LF} {g : GF} {t : BF} {f : EF} {vs ws : List Nat} (hM : MemOk M) (hW : MemW M) (hc : X.calm = true) (hN : X.N.Nodup) (hi : FI0 X M tg iter it) (ok : BlkOk X.N X.env.scope scope own)
    (hg : ∀ (s : Shared) (H : Hp) (C : Addr) (cl : List (Str × Addr)) (fp : List Addr), FG (X.blk s H scope (compEnvC scope cl C X.env) fp) M tg g vs) (ht : ∀ (s : Shared) (H : Hp) (C : Addr) (cl : List (Str × Addr)) (fp : List Addr), FTs (X.blk s H scope (compEnvC scope cl C X.env) fp) M ifs t)
    (he : ∀ (s : Shared) (H : Hp) (C : Addr) (cl : List (Str × Addr)) (fp : List Addr), FE (X.blk s H scope (compEnvC scope cl C X.env) fp) M elt f) (hv : ∀ v ∈ vs, v ∈ ws := by decide) (hws : own.map (·.2) = ws := by rfl) (hs : ∀ x, foldedSetIterable iter X.env x = pure x := by intro _; rfl) :
    FN X M (.ListComp elt [⟨tg, iter, ifs, 0⟩] scope pos) (cLc it ws g t f) := by
  subst hws
  exact PE.imp (pe_lc hc hN hi ok hg ht he hs) fun σ H Q q => lc_read hM hW hv q
theorem lc_stmt {st : Stmt} {i : Nat} {it : LF} {g : GF} {t : BF} {f : EF} {vs ws : List Nat} (hM : MemOk M) (hW : MemW M) (hv : ∀ v ∈ vs, v ∈ ws) (h : PS X st (tAsg (tLc (tI0 X.K M it) (tG X.K M g vs) (tT X.K M t) (tE X.K M f) ws) (gName i))) : PS X st (tAsg (tN X.K M (cLc it ws g t f)) (gName i)) :=
  PS.imp h fun Dn σ H q => lc_read hM hW hv q
theorem new_stmt {st : Stmt} {i : Nat} {r : LF} (h : PS X st (tAsg (tN X.K M r) (gName i))) : PS X st (tAsg (tE X.K M (cL r)) (gName i)) := PS.imp h fun Dn σ H q => by
  obtain ⟨H0, av0, av, ρ, d, c, e, k⟩ := q
  obtain ⟨ds, e1, e⟩ := bind_some e
  cases e
  exact ⟨H0, av0, av, ρ, ds, c, e1, fun a xs H' k1 n1 h1 b1 => k _ H' k1 (.lst h1 (fun z => c.dom _ z n1) (b1.weak fun c z => .inl (.inl z)))⟩
/-- name = [..] on one line -/
theorem ps_lc {i : Nat} {y : Str} {py spos : Pos} {scope : Scope} {own : List (Str × Nat)} {it : LF} {g : GF} {t : BF} {f : EF} {vs ws : List Nat} (hM : MemOk M) (hW : MemW M) (hc : X.calm = true) (hN : X.N.Nodup) (hy : X.N[i]? = some y) (hyl : X.env.scope.names.lookup y = some .local)
    (hsw : swapsWith (.ListComp elt [⟨tg, iter, ifs, 0⟩] scope pos) (some (.Name y py)) spos.line X.env = pure true) (hi : FI0 X M tg iter it) (ok : BlkOk X.N X.env.scope scope own)
    (hg : ∀ (s : Shared) (H : Hp) (C : Addr) (cl : List (Str × Addr)) (fp : List Addr), FG (X.blk s H scope (compEnvC scope cl C X.env) fp) M tg g vs) (ht : ∀ (s : Shared) (H : Hp) (C : Addr) (cl : List (Str × Addr)) (fp : List Addr), FTs (X.blk s H scope (compEnvC scope cl C X.env) fp) M ifs t)
    (he : ∀ (s : Shared) (H : Hp) (C : Addr) (cl : List (Str × Addr)) (fp : List Addr), FE (X.blk s H scope (compEnvC scope cl C X.env) fp) M elt f) (hv : ∀ v ∈ vs, v ∈ ws := by decide) (hws : own.map (·.2) = ws := by rfl) (hs : ∀ x, foldedSetIterable iter X.env x = pure x := by intro _; rfl) :
    PS X (.Assign [.Name y py] (.ListComp elt [⟨tg, iter, ifs, 0⟩] scope pos) spos) (tAsg (tN X.K M (cLc it ws g t f)) (gName i)) := by
  subst hws
  exact lc_stmt hM hW hv (ps_setLc hc hN hy hyl hsw hi ok hg ht he hs)
end

/-! ## defs -/
section
variable (K : PySem.W.Frag) (M : Mem)
/-- what a def promises: it is the function F of its arguments -/
def spF (n : Nat) (F : List D → Option D) : Sp := fun vs H Q _ => ∃ av ds d, vs.length = n ∧ BrL K M av H vs ds ∧ (∀ a, av a → H a ≠ none) ∧ F ds = some d ∧ ∀ v H', Kp M noA H H' → Br K M av H' v d → Q v H'
end
def startE (n : Nat) (ds : List D) : Ev := ds.map .va ++ List.replicate (n - ds.length) .no
def runF (n : Nat) (B : SF) : List D → Option D := fun ds => (B (startE n ds)).bind fun o => match o with
  | .rt d => some d
  | .nx _ => some .none
  | _ => none
section
variable {X : Cx} {M : Mem} {e : Expr} {pos : Pos}
theorem fe_call {k n : Nat} {f : Addr} {fd : FuncData} {ps : List Str} {F : List D → Option D} {x : Str} {p : Pos} {es : List Expr} {r : LF} (Gk : FnOk X.prog X.w X.K X.mg X.base CX0 k f fd ps (spF X.K M n F)) (hr : Room k X.A) (hg : Gl X x) (hm : X.mg x = some (.ref f)) (hk : PySem.W.keepIn X.K (.ref f) = true) (hb : Binds X.K fd ps [])
    (ha : FA X M (e :: es) r) (hn : (e :: es).length = n := by rfl) (hdb : (x == ("__debug__" : Str)) = false := by decide) (he : starEach (e :: es) X.env = (false, eval e X.env) :: starEach es X.env := by rfl) (hpl : (backTo pos (starEach es X.env)).any (·.1) = false := by rfl) :
    FE X M (.Call (.Name x p) (e :: es) [] pos) (cCall F (fun ρ => (r ρ).bind fun ds => if ds.length = n then some ds else none)) :=
  PE.imp (pe_call (E := E0) Gk hr hg hm hk hb .nil pass0 ha hdb he hpl) fun σ H Q q => by
    obtain ⟨H0, av0, av, ρ, d, c, e, k⟩ := q
    obtain ⟨ds, e1, e⟩ := bind_some e
    obtain ⟨ds', e2, e1⟩ := bind_some e1
    split at e1
    · rename_i hl
      cases e1
      refine ⟨H0, av0, av, ρ, ds, c, e2, fun vs H1 k1 b1 => ?_⟩
      refine ⟨av, ds, d, ?_, ?_, (c.mono k1).dom, e, fun v H2 k2 b2 => k v H2 (k1.trans k2) b2⟩
      · rw [List.append_nil, b1.length]; exact hl
      · rw [List.append_nil]; exact b1
    · cases e1
theorem fe_call0 {k : Nat} {f : Addr} {fd : FuncData} {ps : List Str} {F : List D → Option D} {x : Str} {p : Pos} (Gk : FnOk X.prog X.w X.K X.mg X.base CX0 k f fd ps (spF X.K M 0 F)) (hr : Room k X.A) (hg : Gl X x) (hm : X.mg x = some (.ref f)) (hk : PySem.W.keepIn X.K (.ref f) = true) (hb : Binds X.K fd ps [])
    (hdb : (x == ("__debug__" : Str)) = false := by decide) : FE X M (.Call (.Name x p) [] [] pos) (cCall F cNil) :=
  PE.imp (pe_call0 (E := E0) Gk hr hg hm hk hb .nil pass0 hdb) fun σ H Q q => by
    obtain ⟨H0, av0, av, ρ, d, c, e, k⟩ := q
    obtain ⟨ds, e1, e⟩ := bind_some e
    cases e1
    exact ⟨av, [], d, rfl, .nil, c.dom, e, fun v H2 k2 b2 => k v H2 k2 b2⟩
theorem start_cor {K : PySem.W.Frag} {av : Av} {H : Hp} {vs : List V} {ds : List D} {N : List Str} (b : BrL K M av H vs ds) (hd : ∀ a, av a → H a ≠ none) : Cor K M H av av H (L2.start N vs) (startE N.length ds) := by
  have hl := b.length
  have low : ∀ (i : Nat) (s : Sl), (startE N.length ds)[i]? = some s → ∃ x, (L2.start N vs)[i]? = some x ∧ SlOk K M H av av H x s ∧ ∀ es, s ≠ .ow es := by
    intro i s e
    unfold startE at e
    unfold L2.start
    by_cases hi : i < ds.length
    · rw [List.getElem?_append_left (by rw [List.length_map]; exact hi), List.getElem?_map] at e
      cases g : ds[i]? with
      | none => rw [g] at e; cases e
      | some d =>
        rw [g] at e
        cases e
        obtain ⟨v, g1, b1⟩ := b.get g
        exact ⟨some v, by rw [List.getElem?_append_left (by rw [List.length_map]; omega), List.getElem?_map, g1]; rfl, ⟨v, rfl, b1⟩, fun _ z => nomatch z⟩
    · rw [List.getElem?_append_right (by rw [List.length_map]; omega), List.length_map] at e
      have hm := List.mem_of_getElem? e
      have es := List.eq_of_mem_replicate hm
      subst es
      have hlt : i - ds.length < N.length - ds.length := by
        have := (List.getElem?_eq_some_iff.mp e).1
        simpa using this
      refine ⟨none, ?_, trivial, fun _ z => nomatch z⟩
      rw [List.getElem?_append_right (by rw [List.length_map]; omega), List.length_map, hl, List.getElem?_replicate, if_pos hlt]
  refine ⟨Kp.refl, hd, fun _ z => z, ?_, fun i s e => ?_, fun i j es fs a e1 _ _ _ => ?_⟩
  · unfold L2.start startE
    simp [hl]
  · obtain ⟨x, h1, h2, _⟩ := low i s e
    exact ⟨x, h1, h2⟩
  · obtain ⟨_, _, _, h3⟩ := low i _ e1
    exact absurd rfl (h3 es)
/-- THE RULE for a def -/
theorem fun_ok {P : Program} {w : World} {K : PySem.W.Frag} {mg : Str → Option Value} {base : Heap} {x qual : Str} {st : Stmt} {f : Addr} {fd : FuncData} {N ps : List Str} {k : Nat} {B : SF} (F : Fun K x qual st f fd) (S : FnScope N ps (defScope st))
    (hbody : ∀ (cdv : Value) (A : Around) (outer : List Env) (s : Shared) (H : Hp) (E : XK), Room k (A.deeper (envOfC qual (defScope st) s.heap.objs.size f cdv)) → FSs (cxOf CX0 P w K mg base N qual (defScope st) f cdv A outer s H E).nox M (defBody st) B) :
    FnOk P w K mg base CX0 (k + 1) f fd ps (spF K M ps.length (runF N.length B)) := by
  refine F.ok S (fun vs H Q E h => ?_) (fun cdv A outer s H vs Q E hr h => ?_)
  · obtain ⟨_, _, _, h, _⟩ := h; exact h
  · obtain ⟨av, ds, d, hl, b, hd, e, q⟩ := h
    refine ⟨_, hbody cdv A outer s H E hr, ?_⟩
    obtain ⟨o, e1, e⟩ := bind_some e
    refine ⟨H, av, av, _, o, start_cor b hd, e1, ?_⟩
    cases o with
    | rt d' => cases e; exact q
    | nx ρ => cases e; exact fun av' σ' H' k1 s1 c1 => q .non H' c1.kp .non
    | bk ρ => cases e
    | ct ρ => cases e
end
end G

namespace G
open PySem PySem.Spec PyProof.Rows L2

/-! ## data without tables is data of the library -/
section
variable {K : PySem.W.Frag} {M : Mem} {av : Av} {H : Hp}
mutual
theorem Br.dp {v : V} {d : D} (h : PyData.canLay0 d = true) : Br K M av H v d → Dp K H v d
  | .non => .non
  | .bl b => .bl b
  | .int i => .int i
  | .str x => .str x
  | .lst e n r => .lst (SqL.of e) (BrL.dp (by simpa only [PyData.canLay0] using h) r)
  | .tup e r => .tup (SqT.of e) (BrL.dp (by simpa only [PyData.canLay0] using h) r)
  | .scr _ => by simp [scrD, PyData.canLay0] at h
  | .mem _ => by simp [memD, PyData.canLay0] at h
theorem BrL.dp {vs : List V} {ds : List D} (h : PyData.canLayAll0 ds = true) : BrL K M av H vs ds → DpAll K H vs ds
  | .nil => .nil
  | .cons (d := d) (ds := ds) a r => by
    have h' : PyData.canLay0 d = true ∧ PyData.canLayAll0 ds = true := by simpa only [PyData.canLayAll0, Bool.and_eq_true] using h
    exact .cons (Br.dp h'.1 a) (BrL.dp h'.2 r)
end
theorem BrK.dp {v : V} {d : D} (h : PyData.canLay0 d = true) (b : BrK K M av H v d) : Dp K H v d := by
  rcases b with b | ⟨a, xs, ds, rfl, rfl, e, b⟩
  · exact b.dp h
  · exact .lst (SqL.of e) (b.dp (by simpa only [PyData.canLay0] using h))
theorem BrL.bls : ∀ (ns : List Bool), BrL K M av H (ns.map V.bl) (ns.map PyData.bool)
  | [] => .nil
  | n :: r => .cons (.bl n) (BrL.bls r)
theorem BrL.of_bls : ∀ {ns : List Bool} {vs : List V}, BrL K M av H vs (ns.map PyData.bool) → vs = ns.map V.bl
  | [], _, .nil => rfl
  | n :: r, _, .cons a b => by
    cases a with
    | bl i => rw [BrL.of_bls b]; rfl
end
/-- all intsD -/
def intsD : List D → Option (List Int)
  | [] => some []
  | .int i :: r => (intsD r).bind fun ns => some (i :: ns)
  | _ => none
def boolsD : List D → Option (List Bool)
  | [] => some []
  | .bool i :: r => (boolsD r).bind fun ns => some (i :: ns)
  | _ => none
theorem ints_of : ∀ {ds : List D} {ns : List Int}, intsD ds = some ns → ds = ns.map PyData.int
  | [], ns, h => by cases h; rfl
  | .int i :: r, ns, h => by
    obtain ⟨m, e, h⟩ := bind_some h
    cases h
    rw [ints_of e]; rfl
  | .none :: r, ns, h => by cases h
  | .bool _ :: r, ns, h => by cases h
  | .str _ :: r, ns, h => by cases h
  | .list _ :: r, ns, h => by cases h
  | .tuple _ :: r, ns, h => by cases h
  | .dict _ :: r, ns, h => by cases h
theorem bools_of : ∀ {ds : List D} {ns : List Bool}, boolsD ds = some ns → ds = ns.map PyData.bool
  | [], ns, h => by cases h; rfl
  | .bool i :: r, ns, h => by
    obtain ⟨m, e, h⟩ := bind_some h
    cases h
    rw [bools_of e]; rfl
  | .none :: r, ns, h => by cases h
  | .int _ :: r, ns, h => by cases h
  | .str _ :: r, ns, h => by cases h
  | .list _ :: r, ns, h => by cases h
  | .tuple _ :: r, ns, h => by cases h
  | .dict _ :: r, ns, h => by cases h
theorem ints_map : ∀ ns : List Int, intsD (ns.map PyData.int) = some ns
  | [] => rfl
  | n :: r => by
    show (intsD (r.map PyData.int)).bind _ = _
    rw [ints_map r]; rfl
theorem bools_map : ∀ ns : List Bool, boolsD (ns.map PyData.bool) = some ns
  | [] => rfl
  | n :: r => by
    show (boolsD (r.map PyData.bool)).bind _ = _
    rw [bools_map r]; rfl

/-! ## operations -/
def addD : D → D → Option D
  | .int i, .int j => some (.int (i + j))
  | .str x, .str y => if x.length + y.length ≤ lim then some (.str (x ++ y)) else none
  | .tuple xs, .tuple ys => if xs.length + ys.length ≤ lim then some (.tuple (xs ++ ys)) else none
  | .list xs, .list ys => if xs.length + ys.length ≤ lim then some (.list (xs ++ ys)) else none
  | _, _ => none
def subD : D → D → Option D
  | .int i, .int j => some (.int (i - j))
  | _, _ => none
def mulD : D → D → Option D
  | .int i, .int j => if (-(2 ^ 64) < i ∧ i < 2 ^ 64) ∨ (-(2 ^ 64) < j ∧ j < 2 ^ 64) then some (.int (i * j)) else none
  | .list xs, .int j => if 0 ≤ j ∧ j < 1000 ∧ xs.length ≤ 1000 then some (.list (List.replicate j.toNat xs).flatten) else none
  | _, _ => none
def fdivD : D → D → Option D
  | .int i, .int j => if 0 < j ∧ j < 1073741824 then some (.int (i / j)) else none
  | _, _ => none
def modD : D → D → Option D
  | .int i, .int j => if 0 < j then some (.int (i % j)) else none
  | _, _ => none
def negD : D → Option D
  | .int i => some (.int (-i))
  | _ => none
def eqD (d e : D) : Option D := if SeqAt.shaped d = true ∧ SeqAt.shaped e = true then some (.bool (PyData.eqv d e)) else none
def neD (d e : D) : Option D := if SeqAt.shaped d = true ∧ SeqAt.shaped e = true then some (.bool (!PyData.eqv d e)) else none
def ltD : D → D → Option D
  | .int i, .int j => some (.bool (decide (i < j)))
  | _, _ => none
def leD : D → D → Option D
  | .int i, .int j => some (.bool (decide (i ≤ j)))
  | _, _ => none
def gtD : D → D → Option D
  | .int i, .int j => some (.bool (decide (j < i)))
  | _, _ => none
def geD : D → D → Option D
  | .int i, .int j => some (.bool (decide (j ≤ i)))
  | _, _ => none
def isNone : D → Bool
  | .none => true
  | _ => false
def isD : D → D → Option D
  | d, .none => some (.bool (isNone d))
  | .bool a, .bool b => some (.bool (decide (a = b)))
  | _, _ => none
def isntD : D → D → Option D
  | d, .none => some (.bool (!isNone d))
  | .bool a, .bool b => some (.bool (!decide (a = b)))
  | _, _ => none
def inD (d : D) : D → Option D
  | .list ds => if SeqAt.shaped d = true ∧ SeqAt.shaped (.list ds) = true then some (.bool (ds.any fun z => PyData.eqv z d)) else none
  | .tuple ds => if SeqAt.shaped d = true ∧ SeqAt.shaped (.tuple ds) = true then some (.bool (ds.any fun z => PyData.eqv z d)) else none
  | _ => none
def ninD (d : D) : D → Option D
  | .list ds => if SeqAt.shaped d = true ∧ SeqAt.shaped (.list ds) = true then some (.bool (!ds.any fun z => PyData.eqv z d)) else none
  | .tuple ds => if SeqAt.shaped d = true ∧ SeqAt.shaped (.tuple ds) = true then some (.bool (!ds.any fun z => PyData.eqv z d)) else none
  | _ => none
def scrI : List (D × D) → Option (List Int)
  | [] => some []
  | (.int n, .none) :: r => (scrI r).bind fun ds => some (n :: ds)
  | _ => none
theorem scrI_of : ∀ ns : List Int, scrI (ns.map fun n => (PyData.int n, PyData.none)) = some ns
  | [] => rfl
  | n :: r => by
    show (scrI (r.map fun n => (PyData.int n, PyData.none))).bind _ = _
    rw [scrI_of r]; rfl
def ixD : D → D → Option D
  | .list ds, .int i => atI ds i
  | .tuple ds, .int i => atI ds i
  | .str z, .int i => if z.length ≤ lim then (atI z.cps.toList i).bind fun c => some (.str ⟨#[c]⟩) else none
  | .dict kvs, .int i => (scrI kvs).bind fun ns => (atI ns i).bind fun n => some (.int n)
  | _, _ => none

section
variable {K : PySem.W.Frag} {M : Mem} {av : Av} {H : Hp}
theorem BrL.atI {vs : List V} {ds : List D} {d : D} {i : Int} (b : BrL K M av H vs ds) (h : L2.atI ds i = some d) : ∃ v, L2.atI vs i = some v ∧ Br K M av H v d := by
  unfold L2.atI at h ⊢
  obtain ⟨j, e1, e2⟩ := bind_some h
  obtain ⟨v, e3, b'⟩ := b.get e2
  refine ⟨v, ?_, b'⟩
  rw [b.length, e1]
  exact e3
/-- the script's intsD stand there -/
theorem BrK.scr_ {v : V} {kvs : List (D × D)} {ns : List Int} (b : BrK K M av H v (.dict kvs)) (e : scrI kvs = some ns) : ∃ a, v = .ref a ∧ SqL K H a (ns.map V.int) := by
  rcases b with b | ⟨a, xs, ds, e1, e2, e3, b⟩
  · generalize hd : PyData.dict kvs = d at b
    cases b with
    | scr h =>
      rename_i a ms
      unfold scrD at hd
      injection hd with hd
      rw [hd, scrI_of] at e
      cases e
      refine ⟨a, rfl, ?_⟩
      rcases h with ⟨o, h⟩ | h
      · exact .inl (.inr ⟨o, h⟩)
      · rcases h with h | h
        · rcases h with h | ⟨o, h⟩ <;> cases h
        · exact .inr h
    | mem h =>
      unfold memD at hd
      injection hd with hd
      rw [hd] at e
      cases e
    | _ => cases hd
  · cases e2
theorem BrK.isNone {v : V} {d : D} (b : BrK K M av H v d) : decide (v = .non) = isNone d := by
  rcases b with b | ⟨a, xs, ds, rfl, rfl, e3, b⟩
  · cases b <;> rfl
  · rfl
end
section
variable {X : Cx} {M : Mem}
theorem o_add (hM : MemOk M) : OpR X (binaryOp .Add) (r2 X.K M addD) := by
  intro pins s σ H x y v u Q I rx ry h
  obtain ⟨av, d, e, r, b1, b2, hd, g, k⟩ := h
  unfold addD at g
  split at g
  · cases g
    exact op_add pins s σ H x y v u Q I rx ry ⟨_, _, b1.int_, b2.int_, k _ _ Kp.refl (.int _)⟩
  · split at g
    · rename_i hl
      cases g
      exact op_add_str pins s σ H x y v u Q I rx ry ⟨_, _, b1.str_, b2.str_, lim_ok hl, k _ _ Kp.refl (.str _)⟩
    · cases g
  · rename_i xs ys
    split at g
    · rename_i hl
      cases g
      obtain ⟨a, vs, rfl, ha, r1⟩ := b1.tuple
      obtain ⟨b, ws, rfl, hb, r2⟩ := b2.tuple
      refine op_catA pins s σ H _ _ v u Q I rx ry ⟨a, b, vs, ws, rfl, rfl, SqT.of ha, SqT.of hb, by rw [r1.length, r2.length]; exact lim_ok hl, fun z => ?_, fun z1 z2 => ?_, fun _ _ p hp => ?_⟩
      · subst z
        cases r1
        exact k _ _ Kp.refl (.tup hb r2)
      · subst z2
        cases r2
        rw [List.append_nil] at k
        exact k _ _ Kp.refl (.tup ha r1)
      · have kn := Kp.new (o := HO.tup (vs ++ ws)) hM hp
        exact k _ _ kn (.tup upd_same ((r1.append r2).mono kn.of))
    · cases g
  · rename_i xs ys
    split at g
    · rename_i hl
      cases g
      obtain ⟨a, vs, rfl, ha, r1⟩ := b1.list
      obtain ⟨b, ws, rfl, hb, r2⟩ := b2.list
      refine op_cat pins s σ H _ _ v u Q I rx ry ⟨a, b, vs, ws, rfl, rfl, ha, hb, by rw [r1.length, r2.length]; exact lim_ok hl, fun p hp => ?_⟩
      have kn := Kp.new (o := HO.lst (vs ++ ws)) hM hp
      exact k _ _ kn (.lst upd_same (fun z => hd _ z hp) ((r1.append r2).mono kn.of))
    · cases g
  · cases g
theorem o_sub : OpR X (binaryOp .Sub) (r2 X.K M subD) := by
  intro pins s σ H x y v u Q I rx ry h
  obtain ⟨av, d, e, r, b1, b2, hd, g, k⟩ := h
  unfold subD at g
  split at g
  · cases g
    exact op_sub pins s σ H x y v u Q I rx ry ⟨_, _, b1.int_, b2.int_, k _ _ Kp.refl (.int _)⟩
  · cases g
theorem rep_br {K : PySem.W.Frag} {av : Av} {H : Hp} {vs : List V} {ds : List D} (b : BrL K M av H vs ds) : ∀ n : Nat, BrL K M av H (List.replicate n vs).flatten (List.replicate n ds).flatten
  | 0 => .nil
  | n + 1 => by
    rw [List.replicate_succ, List.replicate_succ, List.flatten_cons, List.flatten_cons]
    exact b.append (rep_br b n)
theorem o_mul (hM : MemOk M) : OpR X (binaryOp .Mult) (r2 X.K M mulD) := by
  intro pins s σ H x y v u Q I rx ry h
  obtain ⟨av, d, e, r, b1, b2, hd, g, k⟩ := h
  unfold mulD at g
  split at g
  · split at g
    · rename_i hc
      cases g
      exact op_mul pins s σ H x y v u Q I rx ry ⟨_, _, b1.int_, b2.int_, hc, k _ _ Kp.refl (.int _)⟩
    · cases g
  · split at g
    · rename_i xs j hc
      cases g
      obtain ⟨a, vs, rfl, ha, r1⟩ := b1.list
      have hl := r1.length
      have h1 : vs.length * j.toNat ≤ 1000 * 1000 := Nat.mul_le_mul (by omega) (by omega)
      refine op_rep pins s σ H _ _ v u Q I rx ry ⟨a, j, vs, rfl, b2.int_, ha, by omega, by omega, by rw [sizeLine_eq]; omega, fun p hp => ?_⟩
      have kn := Kp.new (o := HO.lst (List.replicate j.toNat vs).flatten) hM hp
      exact k _ _ kn (.lst upd_same (fun z => hd _ z hp) ((rep_br r1 _).mono kn.of))
    · cases g
  · cases g
theorem o_fdiv : OpR X (binaryOp .FloorDiv) (r2 X.K M fdivD) := by
  intro pins s σ H x y v u Q I rx ry h
  obtain ⟨av, d, e, r, b1, b2, hd, g, k⟩ := h
  unfold fdivD at g
  split at g
  · split at g
    · rename_i hc
      cases g
      exact op_fdiv pins s σ H x y v u Q I rx ry ⟨_, _, b1.int_, b2.int_, hc, k _ _ Kp.refl (.int _)⟩
    · cases g
  · cases g
theorem o_mod : OpR X (binaryOp .Mod) (r2 X.K M modD) := by
  intro pins s σ H x y v u Q I rx ry h
  obtain ⟨av, d, e, r, b1, b2, hd, g, k⟩ := h
  unfold modD at g
  split at g
  · split at g
    · rename_i hc
      cases g
      exact op_mod pins s σ H x y v u Q I rx ry ⟨_, _, b1.int_, b2.int_, hc, k _ _ Kp.refl (.int _)⟩
    · cases g
  · cases g
theorem o_neg : UnR X (unaryOp .USub) (r1 X.K M negD) := by
  intro pins s σ H x v Q I rx h
  obtain ⟨av, d, r, b1, hd, g, k⟩ := h
  unfold negD at g
  split at g
  · cases g
    exact un_neg pins s σ H x v Q I rx ⟨_, b1.int_, k _ _ Kp.refl (.int _)⟩
  · cases g
theorem o_eq (hu : X.A.units + 64 < cLine) : OpR X (compareOp .Eq) (r2 X.K M eqD) := by
  intro pins s σ H x y v u Q I rx ry h
  obtain ⟨av, d, e, r, b1, b2, hd, g, k⟩ := h
  unfold eqD at g
  split at g
  · rename_i hs
    cases g
    exact op_eqD hu pins s σ H x y v u Q I rx ry ⟨d, e, b1.dp (SeqAt.canLay_of_shaped hs.1), b2.dp (SeqAt.canLay_of_shaped hs.2), hs.1, hs.2, k _ _ Kp.refl (.bl _)⟩
  · cases g
theorem o_ne (hu : X.A.units + 64 < cLine) : OpR X (compareOp .NotEq) (r2 X.K M neD) := by
  intro pins s σ H x y v u Q I rx ry h
  obtain ⟨av, d, e, r, b1, b2, hd, g, k⟩ := h
  unfold neD at g
  split at g
  · rename_i hs
    cases g
    exact op_neD hu pins s σ H x y v u Q I rx ry ⟨d, e, b1.dp (SeqAt.canLay_of_shaped hs.1), b2.dp (SeqAt.canLay_of_shaped hs.2), hs.1, hs.2, k _ _ Kp.refl (.bl _)⟩
  · cases g
theorem o_lt : OpR X (compareOp .Lt) (r2 X.K M ltD) := by
  intro pins s σ H x y v u Q I rx ry h
  obtain ⟨av, d, e, r, b1, b2, hd, g, k⟩ := h
  unfold ltD at g
  split at g
  · cases g
    exact op_lt pins s σ H x y v u Q I rx ry ⟨_, _, b1.int_, b2.int_, k _ _ Kp.refl (.bl _)⟩
  · cases g
theorem o_le : OpR X (compareOp .LtE) (r2 X.K M leD) := by
  intro pins s σ H x y v u Q I rx ry h
  obtain ⟨av, d, e, r, b1, b2, hd, g, k⟩ := h
  unfold leD at g
  split at g
  · cases g
    exact op_le pins s σ H x y v u Q I rx ry ⟨_, _, b1.int_, b2.int_, k _ _ Kp.refl (.bl _)⟩
  · cases g
theorem o_gt : OpR X (compareOp .Gt) (r2 X.K M gtD) := by
  intro pins s σ H x y v u Q I rx ry h
  obtain ⟨av, d, e, r, b1, b2, hd, g, k⟩ := h
  unfold gtD at g
  split at g
  · cases g
    exact op_gt pins s σ H x y v u Q I rx ry ⟨_, _, b1.int_, b2.int_, k _ _ Kp.refl (.bl _)⟩
  · cases g
theorem o_ge : OpR X (compareOp .GtE) (r2 X.K M geD) := by
  intro pins s σ H x y v u Q I rx ry h
  obtain ⟨av, d, e, r, b1, b2, hd, g, k⟩ := h
  unfold geD at g
  split at g
  · cases g
    exact op_ge pins s σ H x y v u Q I rx ry ⟨_, _, b1.int_, b2.int_, k _ _ Kp.refl (.bl _)⟩
  · cases g
theorem o_is : OpR X (compareOp .Is) (r2 X.K M isD) := by
  intro pins s σ H x y v u Q I rx ry h
  obtain ⟨av, d, e, r, b1, b2, hd, g, k⟩ := h
  unfold isD at g
  split at g
  · cases g
    refine op_isN pins s σ H x y v u Q I rx ry ⟨b2.none_, ?_⟩
    rw [b1.isNone]
    exact k _ _ Kp.refl (.bl _)
  · cases g
    exact op_isBl pins s σ H x y v u Q I rx ry ⟨_, _, b1.bool_, b2.bool_, k _ _ Kp.refl (.bl _)⟩
  · cases g
theorem o_isnt : OpR X (compareOp .IsNot) (r2 X.K M isntD) := by
  intro pins s σ H x y v u Q I rx ry h
  obtain ⟨av, d, e, r, b1, b2, hd, g, k⟩ := h
  unfold isntD at g
  split at g
  · cases g
    refine op_notN pins s σ H x y v u Q I rx ry ⟨b2.none_, ?_⟩
    rw [b1.isNone]
    exact k _ _ Kp.refl (.bl _)
  · cases g
    exact op_notBl pins s σ H x y v u Q I rx ry ⟨_, _, b1.bool_, b2.bool_, k _ _ Kp.refl (.bl _)⟩
  · cases g
theorem o_in (hu : X.A.units + 65 < cLine) : OpR X (compareOp .In) (r2 X.K M inD) := by
  intro pins s σ H x y v u Q I rx ry h
  obtain ⟨av, d, e, r, b1, b2, hd, g, k⟩ := h
  unfold inD at g
  split at g
  · split at g
    · rename_i hs
      cases g
      exact op_inD hu pins s σ H x y v u Q I rx ry ⟨d, _, b1.dp (SeqAt.canLay_of_shaped hs.1), b2.dp (SeqAt.canLay_of_shaped hs.2), hs.1, hs.2, k _ _ Kp.refl (.bl _)⟩
    · cases g
  · split at g
    · rename_i hs
      cases g
      obtain ⟨as, q1⟩ := Dp.reads I _ x v (b1.dp (SeqAt.canLay_of_shaped hs.1)) rx
      obtain ⟨bs, q2⟩ := Dp.reads I _ y u (b2.dp (SeqAt.canLay_of_shaped hs.2)) ry
      have h2 := SeqAt.canLay_of_shaped hs.2
      exact SeqAt.in_tuple_reads q2 q1 (by simpa only [PyData.canLay0] using h2) (SeqAt.canLay_of_shaped hs.1) (room_in_shaped hs.1 hu) ⟨.bl _, H, I, rfl, k _ _ Kp.refl (.bl _)⟩
    · cases g
  · cases g
theorem o_nin (hu : X.A.units + 65 < cLine) : OpR X (compareOp .NotIn) (r2 X.K M ninD) := by
  intro pins s σ H x y v u Q I rx ry h
  obtain ⟨av, d, e, r, b1, b2, hd, g, k⟩ := h
  unfold ninD at g
  split at g
  · split at g
    · rename_i hs
      cases g
      exact op_notInD hu pins s σ H x y v u Q I rx ry ⟨d, _, b1.dp (SeqAt.canLay_of_shaped hs.1), b2.dp (SeqAt.canLay_of_shaped hs.2), hs.1, hs.2, k _ _ Kp.refl (.bl _)⟩
    · cases g
  · split at g
    · rename_i hs
      cases g
      obtain ⟨as, q1⟩ := Dp.reads I _ x v (b1.dp (SeqAt.canLay_of_shaped hs.1)) rx
      obtain ⟨bs, q2⟩ := Dp.reads I _ y u (b2.dp (SeqAt.canLay_of_shaped hs.2)) ry
      have h2 := SeqAt.canLay_of_shaped hs.2
      exact SeqAt.notIn_tuple_reads q2 q1 (by simpa only [PyData.canLay0] using h2) (SeqAt.canLay_of_shaped hs.1) (room_in_shaped hs.1 hu) ⟨.bl _, H, I, rfl, k _ _ Kp.refl (.bl _)⟩
    · cases g
  · cases g
theorem o_ix : IxR X (r2 X.K M ixD) := by
  intro value slice pins s σ H x y v u Q I rx ry h
  obtain ⟨av, d, e, r, b1, b2, hd, g, k⟩ := h
  unfold ixD at g
  split at g
  · obtain ⟨a, vs, rfl, ha, r1⟩ := b1.list
    obtain ⟨w, e1, b⟩ := r1.atI g
    exact ix_list value slice pins s σ H _ _ v u Q I rx ry ⟨a, vs, _, w, rfl, b2.int_, SqL.of ha, e1, k _ _ Kp.refl b⟩
  · obtain ⟨a, vs, rfl, ha, r1⟩ := b1.tuple
    obtain ⟨w, e1, b⟩ := r1.atI g
    exact ix_tup value slice pins s σ H _ _ v u Q I rx ry ⟨a, vs, _, w, rfl, b2.int_, SqT.of ha, e1, k _ _ Kp.refl b⟩
  · split at g
    · rename_i hl
      obtain ⟨c, e1, g⟩ := bind_some g
      cases g
      exact ix_str value slice pins s σ H _ _ v u Q I rx ry ⟨_, _, c, b1.str_, b2.int_, lim_ok hl, e1, k _ _ Kp.refl (.str _)⟩
    · cases g
  · obtain ⟨ns, e1, g⟩ := bind_some g
    obtain ⟨n, e2, g⟩ := bind_some g
    cases g
    obtain ⟨a, rfl, hs⟩ := b1.scr_ e1
    refine ix_list value slice pins s σ H _ _ v u Q I rx ry ⟨a, _, _, .int n, rfl, b2.int_, hs, ?_, k _ _ Kp.refl (.int _)⟩
    unfold L2.atI at e2 ⊢
    obtain ⟨j, e3, e4⟩ := bind_some e2
    rw [List.length_map, e3]
    show (ns.map V.int)[j]? = _
    rw [List.getElem?_map, e4]; rfl
  · cases g
end

/-! ## chains -/
def cChn (g g' : D → D → Option D) (f h l : EF) : EF := fun ρ => (f ρ).bind fun x => (h ρ).bind fun y => (g x y).bind fun z => (asB z).bind fun b => if b = true then (l ρ).bind fun w => g' y w else some (.bool false)
section
variable {X : Cx} {M : Mem} {a b c : Expr} {f h l : EF} {pos : Pos}
theorem chn_read {g g' : D → D → Option D} {σ : L2.St} {H : Hp} {Q : VK} (q : tE X.K M (cChn g g' f h l) σ H Q) : tChain (r2 X.K M g) (r2 X.K M g') (tK X.K M f) (tK X.K M h) (tK X.K M l) σ H Q := by
  obtain ⟨H0, av0, av, ρ, d, c, e, k⟩ := q
  obtain ⟨x, e1, e⟩ := bind_some e
  obtain ⟨y, e2, e⟩ := bind_some e
  obtain ⟨z, e3, e⟩ := bind_some e
  obtain ⟨bb, e4, e⟩ := bind_some e
  refine ⟨H0, av0, av, ρ, x, c, e1, fun v H1 k1 b1 => ?_⟩
  refine ⟨H0, av0, av, ρ, y, c.mono k1, e2, fun w H2 k2 b2 => ?_⟩
  refine ⟨av, x, y, z, b1.mono k2, b2, (c.mono (k1.trans k2)).dom, e3, fun u H3 k3 b3 => ?_⟩
  unfold asB at e4
  split at e4
  · cases e4
    cases b3
    refine ⟨_, rfl, ?_⟩
    cases bb with
    | true =>
      have e : ((l ρ).bind fun w => g' y w) = some d := e
      obtain ⟨t, e5, e⟩ := bind_some e
      refine ⟨H0, av0, av, ρ, t, c.mono ((k1.trans k2).trans k3), e5, fun u4 H4 k4 b4 => ?_⟩
      exact ⟨av, y, t, d, (b2.mono k3).mono k4, b4, (c.mono (((k1.trans k2).trans k3).trans k4)).dom, e, fun v5 H5 k5 b5 => k v5 H5 ((((k1.trans k2).trans k3).trans k4).trans k5) b5⟩
    | false => cases e; exact k _ _ ((k1.trans k2).trans k3) (.bl _)
  · cases e4
theorem fe_chn {op op' : CmpOp} {g g' : D → D → Option D} (ho : OpR X (compareOp op) (r2 X.K M g)) (ho' : OpR X (compareOp op') (r2 X.K M g')) (ha : FK X M a f) (hb : FK X M b h) (hc : FK X M c l) (hm : lastMarks [op, op'] [b, c] = false := by with_unfolding_all rfl) : FE X M (.Compare a [op, op'] [b, c] pos) (cChn g g' f h l) :=
  PE.imp (pe_chain ho ho' ha hb hc hm) fun σ H Q q => chn_read q
theorem ft_chn {op op' : CmpOp} {g g' : D → D → Option D} (ho : OpR X (compareOp op) (r2 X.K M g)) (ho' : OpR X (compareOp op') (r2 X.K M g')) (ha : FK X M a f) (hb : FK X M b h) (hc : FK X M c l) (hm : lastMarks [op, op'] [b, c] = false := by with_unfolding_all rfl) : FT X M (.Compare a [op, op'] [b, c] pos) (cT1 asB (cChn g g' f h l)) :=
  PT.imp (pt_chain ho ho' ha hb hc hm) fun σ H Q q => by
    obtain ⟨H0, av0, av, ρ, d, c, e, k⟩ := q
    obtain ⟨x, e1, e⟩ := bind_some e
    refine chn_read ⟨H0, av0, av, ρ, x, c, e1, fun v H1 k1 b1 => ?_⟩
    unfold asB at e
    split at e
    · cases e
      cases b1
      exact ⟨_, rfl, k H1 k1⟩
    · cases e
end

/-! ## slices -/
abbrev OF := Ev → Option (Option Int)
def tO (K : PySem.W.Frag) (M : Mem) (f : OF) : TO := fun σ H Q => ∃ H0 av0 av ρ o, Cor K M H0 av0 av H σ ρ ∧ f ρ = some o ∧ ∀ H', Kp M noA H H' → Q o H'
abbrev FO (X : Cx) (M : Mem) (e : Option Expr) (f : OF) : Prop := PO X e (tO X.K M f)
def cNo : OF := fun _ => some none
def cPt (f : EF) : OF := fun ρ => (f ρ).bind fun d => match d with
  | .int i => some (some i)
  | _ => none
def cutL (xs : List D) (lo hi : Option Int) : List D := (xs.drop (HT.sIx xs.length 0 lo)).take (HT.sIx xs.length xs.length hi - HT.sIx xs.length 0 lo)
def slD : D → Option Int → Option Int → Option D
  | .list ds, lo, hi => some (.list (cutL ds lo hi))
  | .tuple ds, lo, hi => some (.tuple (cutL ds lo hi))
  | .str z, lo, hi => if z.length ≤ lim then some (.str (cutS z lo hi)) else none
  | _, _, _ => none
def cSl (f : EF) (l h : OF) : EF := fun ρ => (f ρ).bind fun x => (l ρ).bind fun lo => (h ρ).bind fun hi => slD x lo hi
def r3 (K : PySem.W.Frag) (M : Mem) (g : D → Option Int → Option Int → Option D) : V → Option Int → Option Int → Hp → VK → Prop := fun x lo hi H Q => ∃ av d r, BrK K M av H x d ∧ (∀ a, av a → H a ≠ none) ∧ g d lo hi = some r ∧ ∀ v H', Kp M noA H H' → Br K M av H' v r → Q v H'
section
variable {X : Cx} {M : Mem} {a e : Expr} {f : EF} {lo hi : Option Expr} {l h : OF} {pos p2 : Pos}
theorem fo_none : FO X M none cNo := ⟨fun pins s σ H Q I q => by
  obtain ⟨H0, av0, av, ρ, d, c, e, k⟩ := q
  cases e
  exact po_none.run pins s σ H Q I (k H Kp.refl)⟩
theorem fo_some (he : FE X M e f) : FO X M (some e) (cPt f) := ⟨fun pins s σ H Q I q => by
  obtain ⟨H0, av0, av, ρ, d, c, e, k⟩ := q
  obtain ⟨x, e1, e⟩ := bind_some e
  split at e
  · cases e
    refine (po_some he).run pins s σ H Q I ⟨H0, av0, av, ρ, _, c, e1, fun v H1 k1 b1 => ?_⟩
    cases b1
    exact ⟨_, rfl, k H1 k1⟩
  · cases e⟩
theorem BrL.cut {K : PySem.W.Frag} {av : Av} {H : Hp} {vs : List V} {ds : List D} (b : BrL K M av H vs ds) (lo hi : Option Int) : BrL K M av H (cutV vs lo hi) (cutL ds lo hi) := by
  unfold cutV cutL
  rw [b.length]
  exact (b.drop _).take _
theorem cutL_whole {ds : List D} {lo hi : Option Int} (h : HT.sIx ds.length 0 lo = 0 ∧ HT.sIx ds.length ds.length hi = ds.length) : cutL ds lo hi = ds := by
  unfold cutL
  rw [h.1, h.2, List.drop_zero, Nat.sub_zero, List.take_length]
theorem s_any (hM : MemOk M) : SlR X (r3 X.K M slD) := by
  intro pins s σ H x v vl vu lo hi sl Q I rx hs pl pu h
  obtain ⟨av, d, r, b1, hd, g, k⟩ := h
  unfold slD at g
  split at g
  · cases g
    obtain ⟨a, vs, rfl, ha, r1⟩ := b1.list
    refine sl_list pins s σ H _ v vl vu _ _ sl Q I rx hs pl pu ⟨a, vs, rfl, SqL.of ha, fun p hp => ?_⟩
    have kn := Kp.new (o := HO.lst (cutV vs lo hi)) hM hp
    exact k _ _ kn (.lst upd_same (fun z => hd _ z hp) ((r1.cut lo hi).mono kn.of))
  · rename_i ds _ _
    cases g
    obtain ⟨a, vs, rfl, ha, r1⟩ := b1.tuple
    refine sl_tupA pins s σ H _ v vl vu _ _ sl Q I rx hs pl pu ⟨a, vs, rfl, SqT.of ha, fun w => ?_, fun w p hp => ?_⟩
    · rw [r1.length] at w
      rw [cutL_whole w] at k
      exact k _ _ Kp.refl (.tup ha r1)
    · have kn := Kp.new (o := HO.tup (cutV vs lo hi)) hM hp
      exact k _ _ kn (.tup upd_same ((r1.cut lo hi).mono kn.of))
  · split at g
    · rename_i hl
      cases g
      exact sl_str pins s σ H _ v vl vu _ _ sl Q I rx hs pl pu ⟨_, b1.str_, lim_ok hl, k _ _ Kp.refl (.str _)⟩
    · cases g
  · cases g
theorem fe_sl (hM : MemOk M) (he : FK X M e f) (hl : FO X M lo l) (hu : FO X M hi h) : FE X M (.Subscript e (.Slice lo hi none p2) pos) (cSl f l h) := PE.imp (pe_slice (s_any hM) he hl hu) fun σ H Q q => by
  obtain ⟨H0, av0, av, ρ, d, c, e, k⟩ := q
  obtain ⟨x, e1, e⟩ := bind_some e
  obtain ⟨y, e2, e⟩ := bind_some e
  obtain ⟨z, e3, e⟩ := bind_some e
  refine ⟨H0, av0, av, ρ, x, c, e1, fun v H1 k1 b1 => ?_⟩
  refine ⟨H0, av0, av, ρ, y, c.mono k1, e2, fun H2 k2 => ?_⟩
  refine ⟨H0, av0, av, ρ, z, c.mono (k1.trans k2), e3, fun H3 k3 => ?_⟩
  exact ⟨av, x, d, (b1.mono k2).mono k3, (c.mono ((k1.trans k2).trans k3)).dom, e, fun u H4 k4 b4 => k u H4 (((k1.trans k2).trans k3).trans k4) b4⟩
end

/-! ## built-ins -/
def lenD : List D → Option D
  | [.list ds] => some (.int ds.length)
  | [.tuple ds] => some (.int ds.length)
  | [.str z] => if z.length ≤ lim then some (.int z.length) else none
  | [.dict kvs] => (scrI kvs).bind fun ns => some (.int ns.length)
  | _ => none
def tupleD : List D → Option D
  | [.list ds] => some (.tuple ds)
  | [.tuple ds] => some (.tuple ds)
  | _ => none
def listD : List D → Option D
  | [.list ds] => some (.list ds)
  | [.tuple ds] => some (.list ds)
  | _ => none
def sumD : List D → Option D
  | [.list ds] => (intsD ds).bind fun ns => some (.int ns.sum)
  | _ => none
def allD : List D → Option D
  | [.list ds] => (boolsD ds).bind fun bs => some (.bool (bs.all id))
  | _ => none
def anyD : List D → Option D
  | [.list ds] => (boolsD ds).bind fun bs => some (.bool (bs.any id))
  | _ => none
def absD : List D → Option D
  | [.int i] => some (.int (if i < 0 then -i else i))
  | _ => none
def intD : List D → Option D
  | [.int i] => some (.int i)
  | [.bool b] => some (.int (if b then 1 else 0))
  | _ => none
theorem one_k {K : PySem.W.Frag} {M : Mem} {av : Av} {H : Hp} {xs : List V} {d : D} (b : BrKL K M av H xs [d]) : ∃ v, xs = [v] ∧ BrK K M av H v d := by
  cases b with
  | cons a r => cases r; exact ⟨_, rfl, a⟩
theorem two_k {K : PySem.W.Frag} {M : Mem} {av : Av} {H : Hp} {xs : List V} {d e : D} (b : BrKL K M av H xs [d, e]) : ∃ v w, xs = [v, w] ∧ BrK K M av H v d ∧ BrK K M av H w e := by
  cases b with
  | cons a r =>
    cases r with
    | cons a2 r => cases r; exact ⟨_, _, rfl, a, a2⟩
section
variable {X : Cx} {M : Mem}
theorem c_len : CallR X (.builtin "len") (rC X.K M lenD) := by
  intro pins s σ H xs us Q I r h
  obtain ⟨av, ds, z, b, hd, g, k⟩ := h
  unfold lenD at g
  split at g
  · cases g
    obtain ⟨v, rfl, b1⟩ := one_k b
    obtain ⟨a, vs, rfl, ha, r1⟩ := b1.list
    refine call_len pins s σ H _ us Q I r ⟨_, vs.length, rfl, .inl ⟨vs, SqL.of ha, rfl⟩, ?_⟩
    rw [r1.length]
    exact k _ _ Kp.refl (.int _)
  · cases g
    obtain ⟨v, rfl, b1⟩ := one_k b
    obtain ⟨a, vs, rfl, ha, r1⟩ := b1.tuple
    refine call_len pins s σ H _ us Q I r ⟨_, vs.length, rfl, .inr ⟨vs, SqT.of ha, rfl⟩, ?_⟩
    rw [r1.length]
    exact k _ _ Kp.refl (.int _)
  · split at g
    · rename_i hl
      cases g
      obtain ⟨v, rfl, b1⟩ := one_k b
      have e := b1.str_
      subst e
      exact call_len pins s σ H _ us Q I r ⟨_, _, rfl, ⟨lim_ok hl, rfl⟩, k _ _ Kp.refl (.int _)⟩
    · cases g
  · obtain ⟨ns, e1, g⟩ := bind_some g
    cases g
    obtain ⟨v, rfl, b1⟩ := one_k b
    obtain ⟨a, rfl, hs⟩ := b1.scr_ e1
    refine call_len pins s σ H _ us Q I r ⟨_, _, rfl, .inl ⟨_, hs, rfl⟩, ?_⟩
    rw [List.length_map]
    exact k _ _ Kp.refl (.int _)
  · cases g
theorem c_tuple (hM : MemOk M) : CallR X (.type "tuple") (rC X.K M tupleD) := by
  intro pins s σ H xs us Q I r h
  obtain ⟨av, ds, z, b, hd, g, k⟩ := h
  unfold tupleD at g
  split at g
  · cases g
    obtain ⟨v, rfl, b1⟩ := one_k b
    obtain ⟨a, vs, rfl, ha, r1⟩ := b1.list
    refine call_tuple_of pins s σ H _ us Q I r ⟨a, vs, rfl, .inl ⟨SqL.of ha, fun p hp => ?_⟩⟩
    have kn := Kp.new (o := HO.tup vs) hM hp
    exact k _ _ kn (.tup upd_same (r1.mono kn.of))
  · cases g
    obtain ⟨v, rfl, b1⟩ := one_k b
    obtain ⟨a, vs, rfl, ha, r1⟩ := b1.tuple
    exact call_tuple_of pins s σ H _ us Q I r ⟨a, vs, rfl, .inr ⟨SqT.of ha, k _ _ Kp.refl (.tup ha r1)⟩⟩
  · cases g
theorem c_list (hM : MemOk M) : CallR X (.type "list") (rC X.K M listD) := by
  intro pins s σ H xs us Q I r h
  obtain ⟨av, ds, z, b, hd, g, k⟩ := h
  unfold listD at g
  split at g
  · cases g
    obtain ⟨v, rfl, b1⟩ := one_k b
    obtain ⟨a, vs, rfl, ha, r1⟩ := b1.list
    refine call_list_of pins s σ H _ us Q I r ⟨a, vs, rfl, .inl (SqL.of ha), fun p hp => ?_⟩
    have kn := Kp.new (o := HO.lst vs) hM hp
    exact k _ _ kn (.lst upd_same (fun z => hd _ z hp) (r1.mono kn.of))
  · cases g
    obtain ⟨v, rfl, b1⟩ := one_k b
    obtain ⟨a, vs, rfl, ha, r1⟩ := b1.tuple
    refine call_list_of pins s σ H _ us Q I r ⟨a, vs, rfl, .inr (SqT.of ha), fun p hp => ?_⟩
    have kn := Kp.new (o := HO.lst vs) hM hp
    exact k _ _ kn (.lst upd_same (fun z => hd _ z hp) (r1.mono kn.of))
  · cases g
theorem c_sum (hc : X.calm = true) : CallR X (.builtin "sum") (rC X.K M sumD) := by
  intro pins s σ H xs us Q I r h
  obtain ⟨av, ds, z, b, hd, g, k⟩ := h
  unfold sumD at g
  split at g
  · obtain ⟨ns, e1, g⟩ := bind_some g
    cases g
    obtain ⟨v, rfl, b1⟩ := one_k b
    obtain ⟨a, vs, rfl, ha, r1⟩ := b1.list
    rw [ints_of e1] at r1
    have e := r1.of_ints
    subst e
    exact cr_sum hc pins s σ H _ us Q I r ⟨a, ns, rfl, SqL.of ha, k _ _ Kp.refl (.int _)⟩
  · cases g
theorem c_all (hc : X.calm = true) : CallR X (.builtin "all") (rC X.K M allD) := by
  intro pins s σ H xs us Q I r h
  obtain ⟨av, ds, z, b, hd, g, k⟩ := h
  unfold allD at g
  split at g
  · obtain ⟨ns, e1, g⟩ := bind_some g
    cases g
    obtain ⟨v, rfl, b1⟩ := one_k b
    obtain ⟨a, vs, rfl, ha, r1⟩ := b1.list
    rw [bools_of e1] at r1
    have e := r1.of_bls
    subst e
    exact cr_all hc pins s σ H _ us Q I r ⟨a, ns, rfl, SqL.of ha, k _ _ Kp.refl (.bl _)⟩
  · cases g
theorem c_any (hc : X.calm = true) : CallR X (.builtin "any") (rC X.K M anyD) := by
  intro pins s σ H xs us Q I r h
  obtain ⟨av, ds, z, b, hd, g, k⟩ := h
  unfold anyD at g
  split at g
  · obtain ⟨ns, e1, g⟩ := bind_some g
    cases g
    obtain ⟨v, rfl, b1⟩ := one_k b
    obtain ⟨a, vs, rfl, ha, r1⟩ := b1.list
    rw [bools_of e1] at r1
    have e := r1.of_bls
    subst e
    exact cr_any hc pins s σ H _ us Q I r ⟨a, ns, rfl, SqL.of ha, k _ _ Kp.refl (.bl _)⟩
  · cases g
theorem c_abs : CallR X (.builtin "abs") (rC X.K M absD) := by
  intro pins s σ H xs us Q I r h
  obtain ⟨av, ds, z, b, hd, g, k⟩ := h
  unfold absD at g
  split at g
  · cases g
    obtain ⟨v, rfl, b1⟩ := one_k b
    exact call_abs pins s σ H _ us Q I r ⟨_, by rw [b1.int_], k _ _ Kp.refl (.int _)⟩
  · cases g
theorem c_int : CallR X (.type "int") (rC X.K M intD) := by
  intro pins s σ H xs us Q I r h
  obtain ⟨av, ds, z, b, hd, g, k⟩ := h
  unfold intD at g
  split at g
  · cases g
    obtain ⟨v, rfl, b1⟩ := one_k b
    exact call_int1 pins s σ H _ us Q I r (.inl ⟨_, by rw [b1.int_], k _ _ Kp.refl (.int _)⟩)
  · cases g
    obtain ⟨v, rfl, b1⟩ := one_k b
    exact call_int1 pins s σ H _ us Q I r (.inr ⟨_, by rw [b1.bool_], k _ _ Kp.refl (.int _)⟩)
  · cases g
end

/-! ## isinstance -/
def isiD (T : String) : D → Option D
  | .none => if T = "tuple" ∨ T = "int" ∨ T = "bool" ∨ T = "str" then some (.bool false) else none
  | .bool _ => if T = "int" ∨ T = "bool" then some (.bool true) else if T = "tuple" ∨ T = "str" then some (.bool false) else none
  | .int _ => if T = "int" then some (.bool true) else if T = "tuple" ∨ T = "bool" ∨ T = "str" then some (.bool false) else none
  | .str _ => if T = "str" then some (.bool true) else if T = "tuple" ∨ T = "int" ∨ T = "bool" then some (.bool false) else none
  | .list _ => if T = "tuple" ∨ T = "int" ∨ T = "bool" ∨ T = "str" then some (.bool false) else none
  | .tuple _ => if T = "tuple" then some (.bool true) else if T = "int" ∨ T = "bool" ∨ T = "str" then some (.bool false) else none
  | .dict _ => none
def tyS : D → String
  | .none => "NoneType"
  | .bool _ => "bool"
  | .int _ => "int"
  | .str _ => "str"
  | .list _ => "list"
  | .tuple _ => "tuple"
  | .dict _ => "dict"
theorem isi_kit {T : String} {d r : D} (h : isiD T d = some r) : ∃ b, r = .bool b ∧ kitB (tyS d) T = some b := by
  unfold isiD at h
  split at h
  · split at h
    · rename_i ht
      cases h
      refine ⟨_, rfl, ?_⟩
      rcases ht with rfl | rfl | rfl | rfl <;> (simp only [tyS]; decide +kernel)
    · cases h
  · split at h
    · rename_i ht
      cases h
      refine ⟨_, rfl, ?_⟩
      rcases ht with rfl | rfl <;> (simp only [tyS]; decide +kernel)
    · split at h
      · rename_i ht
        cases h
        refine ⟨_, rfl, ?_⟩
        rcases ht with rfl | rfl <;> (simp only [tyS]; decide +kernel)
      · cases h
  · split at h
    · rename_i ht
      cases h
      subst ht
      exact ⟨_, rfl, by simp only [tyS]; decide +kernel⟩
    · split at h
      · rename_i ht
        cases h
        refine ⟨_, rfl, ?_⟩
        rcases ht with rfl | rfl | rfl <;> (simp only [tyS]; decide +kernel)
      · cases h
  · split at h
    · rename_i ht
      cases h
      subst ht
      exact ⟨_, rfl, by simp only [tyS]; decide +kernel⟩
    · split at h
      · rename_i ht
        cases h
        refine ⟨_, rfl, ?_⟩
        rcases ht with rfl | rfl | rfl <;> (simp only [tyS]; decide +kernel)
      · cases h
  · split at h
    · rename_i ht
      cases h
      refine ⟨_, rfl, ?_⟩
      rcases ht with rfl | rfl | rfl | rfl <;> (simp only [tyS]; decide +kernel)
    · cases h
  · split at h
    · rename_i ht
      cases h
      subst ht
      exact ⟨_, rfl, by simp only [tyS]; decide +kernel⟩
    · split at h
      · rename_i ht
        cases h
        refine ⟨_, rfl, ?_⟩
        rcases ht with rfl | rfl | rfl <;> (simp only [tyS]; decide +kernel)
      · cases h
  · cases h
theorem Br.ty {K : PySem.W.Frag} {M : Mem} {av : Av} {H : Hp} {v : V} {d : D} (b : BrK K M av H v d) (hd : ∀ k, d ≠ .dict k) : TyX K H v (.type (tyS d)) := by
  rcases b with b | ⟨a, xs, ds, rfl, rfl, e3, b⟩
  · cases b with
    | non => exact .base .non
    | bl b => exact .base (.bl b)
    | int b => exact .base (.int b)
    | str b => exact .base (.str b)
    | lst e _ _ => exact .base (.lst e)
    | tup e _ => exact .base (.tup e)
    | scr _ => exact absurd rfl (hd _)
    | mem _ => exact absurd rfl (hd _)
  · exact .base (.lst e3)
section
variable {X : Cx} {M : Mem} {e : Expr} {f : EF} {pos p p2 : Pos}
theorem fe_isi {T : Str} {Tn : String} (hg : Gl X "isinstance") (hm : X.mg "isinstance" = none) (hgT : Gl X T) (hmT : X.mg T = none) (hv : bootBuiltins T = some (.type Tn)) (he : FK X M e f) (hn : T ≠ "__name__" := by decide) (hdb : (T == ("__debug__" : Str)) = false := by decide)
    (hs1 : starEach [e, .Name T p2] X.env = (false, eval e X.env) :: starEach [.Name T p2] X.env := by rfl) (hs2 : starEach [.Name T p2] X.env = (false, eval (.Name T p2) X.env) :: starEach [] X.env := by rfl) (hpl : (backTo pos (starEach [.Name T p2] X.env)).any (·.1) = false := by rfl) : FE X M (.Call (.Name "isinstance" p) [e, .Name T p2] [] pos) (c1 (isiD Tn) f) :=
  PE.imp (pe_callB call_isi hg hm (by decide +kernel) (pa_cons he (pa_cons (pe_bltn hgT hmT hv (v := .ty Tn) rfl hn hdb) pa_nil hs2) hs1) (by decide) (by decide) hs1 hpl) fun σ H Q q => by
    obtain ⟨H0, av0, av, ρ, d, c, e, k⟩ := q
    obtain ⟨x, e1, e⟩ := bind_some e
    refine ⟨H0, av0, av, ρ, x, c, e1, fun v H1 k1 b1 => ?_⟩
    obtain ⟨b, rfl, hb⟩ := isi_kit e
    refine ⟨v, _, _, _, b, rfl, .ty _, Br.ty b1 (fun kk z => ?_), kit_ty hb, k _ _ k1 (.bl _)⟩
    subst z
    cases e
end
end G

namespace G
open PySem PySem.Spec PyProof.Rows L2

/-! ## the module -/
/-- the built-ins keep their names -/
structure Bt (mg : Str → Option Value) : Prop where
  len : mg "len" = none
  tuple : mg "tuple" = none
  list : mg "list" = none
  sum : mg "sum" = none
  max : mg "max" = none
  min : mg "min" = none
  all : mg "all" = none
  any : mg "any" = none
  abs : mg "abs" = none
  int : mg "int" = none
  bool : mg "bool" = none
  str : mg "str" = none
  set : mg "set" = none
  sorted : mg "sorted" = none
  range : mg "range" = none
  enumerate : mg "enumerate" = none
  zip : mg "zip" = none
  isinstance : mg "isinstance" = none
  repr : mg "repr" = none
  ve : mg "ValueError" = none
/-- a def stands in the module, and is the function F of n arguments -/
structure Cal (P : Program) (w : World) (K : PySem.W.Frag) (mg : Str → Option Value) (base : Heap) (M : Mem) (x : Str) (k n : Nat) (F : List D → Option D) : Prop where
  ex : ∃ f fd ps, mg x = some (.ref f) ∧ PySem.W.keepIn K (.ref f) = true ∧ Binds K fd ps [] ∧ FnOk P w K mg base CX0 k f fd ps (spF K M n F)
theorem u64 {k : Nat} {A : Around} (r : Room k A) : A.units + 64 < cLine := by have := r.un; omega
theorem u65 {k : Nat} {A : Around} (r : Room k A) : A.units + 65 < cLine := by have := r.un; omega
def cArgs (n : Nat) (r : LF) : LF := fun ρ => (r ρ).bind fun ds => if ds.length = n then some ds else none
section
variable {X : Cx} {M : Mem} {e : Expr} {pos : Pos}
theorem fe_cal {k n j : Nat} {F : List D → Option D} {x : Str} {p : Pos} {es : List Expr} {r : LF} (C : Cal X.prog X.w X.K X.mg X.base M x k n F) (hr : Room j X.A) (hk : k ≤ j) (hg : Gl X x)
    (ha : FA X M (e :: es) r) (hn : (e :: es).length = n := by rfl) (hdb : (x == ("__debug__" : Str)) = false := by decide) (he : starEach (e :: es) X.env = (false, eval e X.env) :: starEach es X.env := by rfl) (hpl : (backTo pos (starEach es X.env)).any (·.1) = false := by rfl) :
    FE X M (.Call (.Name x p) (e :: es) [] pos) (cCall F (cArgs n r)) := by
  obtain ⟨f, fd, ps, h1, h2, h3, h4⟩ := C.ex
  exact fe_call h4 (hr.mono hk) hg h1 h2 h3 ha hn hdb he hpl
theorem fe_cal0 {k j : Nat} {F : List D → Option D} {x : Str} {p : Pos} (C : Cal X.prog X.w X.K X.mg X.base M x k 0 F) (hr : Room j X.A) (hk : k ≤ j) (hg : Gl X x) (hdb : (x == ("__debug__" : Str)) = false := by decide) :
    FE X M (.Call (.Name x p) [] [] pos) (cCall F cNil) := by
  obtain ⟨f, fd, ps, h1, h2, h3, h4⟩ := C.ex
  exact fe_call0 h4 (hr.mono hk) hg h1 h2 h3 hdb
/-- a constant of the module -/
theorem fe_gint {x : Str} {i : Int} {p : Pos} (hg : Gl X x) (hm : ∃ t, X.mg x = some (.int i t)) (hd : (x == ("__debug__" : Str)) = false := by decide) : FE X M (.Name x p) (cC (.int i)) := by
  obtain ⟨t, hm⟩ := hm
  exact fe_const (pe_glob (v := .int i) hg hm ⟨t, rfl⟩ hd) fun _ _ => .int i
theorem fe_gstr {x y : Str} {p : Pos} (hg : Gl X x) (hm : ∃ t, X.mg x = some (.str y t)) (hd : (x == ("__debug__" : Str)) = false := by decide) : FE X M (.Name x p) (cC (.str y)) := by
  obtain ⟨t, hm⟩ := hm
  exact fe_const (pe_glob (v := .str y) hg hm ⟨t, rfl⟩ hd) fun _ _ => .str y
/-- a, b = x, y of plain local names -/
def cPar (i j : Nat) (r : LF) : SF := fun ρ => (r ρ).bind fun ds => match ds with
  | [d, e] => some (.nx ((ρ.set i (.va d)).set j (.va e)))
  | _ => none
theorem fs_par {i j : Nat} {st : Stmt} {r : LF} (h : PS X st (tPar i j (tA X.K M r))) : FS X M st (cPar i j r) := PS.imp h fun Dn σ H q => by
  obtain ⟨H0, av0, av, ρ, o, c, e, k⟩ := q
  obtain ⟨ds, e1, e⟩ := bind_some e
  split at e
  · cases e
    refine ⟨H0, av0, av, ρ, _, c, e1, fun vs H1 k1 b1 => ?_⟩
    cases b1 with
    | cons b1 r1 =>
      cases r1 with
      | cons b2 r2 =>
        cases r2
        exact ⟨_, _, rfl, Aft.now k k1 (((c.mono k1).setVa b1).setVa b2)⟩
  · cases e
end
/-- a def of the text, as a Cal -/
theorem cal_of {P : Program} {w : World} {K : PySem.W.Frag} {mg : Str → Option Value} {base : Heap} {M : Mem} {x qual : Str} {st : Stmt} {f : Addr} {fd : FuncData} {ps : List Str} {k n : Nat} {F : List D → Option D} (Fn : Fun K x qual st f fd) (g : mg x = some (.ref f)) (b : Binds K fd ps []) (ok : FnOk P w K mg base CX0 k f fd ps (spF K M n F)) : Cal P w K mg base M x k n F :=
  ⟨f, fd, ps, g, Fn.kp, b, ok⟩
theorem law_start {K : PySem.W.Frag} {M : Mem} {F : List D → Option D} {H : Hp} {a : Addr} {ns : List Int} (ho : Only H) (hS : SqL K H a (ns.map V.int)) (h : F [scrD ns] = some (.bool true)) : spF K M 1 F [.ref a] H (fun v _ => v = .bl true) fun _ _ _ => False := by
  refine ⟨noA, [scrD ns], .bool true, rfl, .cons (.scr ?_) .nil, fun _ z => z.elim, h, fun v H' k b => by cases b; rfl⟩
  rcases hS with h | h
  · rcases h with h | h
    · rcases ho a with z | ⟨o, xs, z⟩
      · rw [z] at h; cases h
      · rw [z] at h; cases h
    · exact .inl h
  · exact .inr (.inr h)
def noM : Mem := fun _ _ _ => False
theorem noM_ok : MemOk noM := fun _ _ _ _ _ h => h
theorem noM_w : MemW noM := fun _ _ _ _ _ _ _ h => h
end G

namespace G
open PySem PySem.Spec PyProof.Rows L2

/-! ## ranges downwards -/
def rcL (lo c : Int) (n : Nat) : List D := (List.range n).map fun i => .int (lo + (i : Nat) * c)
theorem wk_rangeC {K : PySem.W.Frag} {M : Mem} {av : Av} {H' : Hp} (lo c : Int) (n : Nat) : Wk K M av (Itc lo c n) H' (rcL lo c n) := by
  intro i av' H2 s hd k
  refine ⟨fun d e => ?_, fun e => ?_⟩
  · have hi : i < n := by
      have := (List.getElem?_eq_some_iff.mp e).1
      simpa [rcL] using this
    refine ⟨hi, fun x H3 y => ?_⟩
    obtain ⟨rfl, rfl⟩ := y
    have e' : d = .int (lo + (i : Nat) * c) := by
      unfold rcL at e
      rw [List.getElem?_map, List.getElem?_range hi] at e
      exact (Option.some.inj e).symm
    rw [e']
    exact ⟨Kp.refl, .int _⟩
  · have := List.getElem?_eq_none_iff.mp e
    show n ≤ i
    simpa [rcL] using this
/-- range(a, b, -1) -/
def cRg3 (f h l : EF) : LF := fun ρ => (f ρ).bind fun d => (h ρ).bind fun e => (l ρ).bind fun k => match d, e, k with
  | .int m, .int n, .int c => if -(2 ^ 62) ≤ m ∧ m < 2 ^ 62 ∧ -(2 ^ 62) ≤ n ∧ n < 2 ^ 62 ∧ c = -1 then some (rcL m (-1) (m - n).toNat) else none
  | _, _, _ => none
section
variable {X : Cx} {M : Mem} {tg e e2 e3 : Expr} {f h l : EF} {pos : Pos}
theorem fi_range3 {p : Pos} (hg : Gl X "range") (hm : X.mg "range" = none) (ha : FE X M e f) (hb : FE X M e2 h) (hc : FE X M e3 l)
    (hs : starEach [e, e2, e3] X.env = (false, eval e X.env) :: starEach [e2, e3] X.env := by rfl) (hs2 : starEach [e2, e3] X.env = (false, eval e2 X.env) :: starEach [e3] X.env := by rfl) (hs3 : starEach [e3] X.env = (false, eval e3 X.env) :: starEach [] X.env := by rfl) (hpl : (backTo pos (starEach [e2, e3] X.env)).any (·.1) = false := by rfl) :
    FI X M tg (.Call (.Name "range" p) [e, e2, e3] [] pos) (cRg3 f h l) :=
  PI.imp (pi_range3 hg hm (fa_cons ha (fa_cons hb (fa_cons hc fa_nil hs3) hs2) hs) hs hpl) fun σ H R q => by
    obtain ⟨H0, av0, av, ρ, ds, c, e, k⟩ := q
    obtain ⟨d, e1, e⟩ := bind_some e
    obtain ⟨d2, e2, e⟩ := bind_some e
    obtain ⟨d3, e3, e⟩ := bind_some e
    split at e
    · split at e
      · rename_i hb
        cases e
        obtain ⟨b1, b2, b3, b4, rfl⟩ := hb
        refine ⟨H0, av0, av, ρ, _, c, (by unfold cCons cNil; rw [e1, e2, e3]; rfl), fun vs H1 k1 b => ?_⟩
        · cases b with
          | cons x1 r =>
            cases r with
            | cons x2 r =>
              cases r with
              | cons x3 r =>
                cases r
                cases x1
                cases x2
                cases x3
                exact ⟨_, _, -1, _, rfl, RgC.neg b1 b2 b3 b4, k _ _ k1 (wk_rangeC _ _ _)⟩
      · cases e
    · cases e
end

/-! ## a dict of the module, ints to ints -/
def EntI : List DictEntry → List (Int × Int) → Prop
  | [], [] => True
  | e :: r, (k, v) :: t => (∃ t1, e.key = .int k t1) ∧ e.hash = hashInt k ∧ (∃ t2, e.val = .int v t2) ∧ EntI r t
  | _, _ => False
def KTab (K : PySem.W.Frag) (a : Addr) (tab : List (Int × Int)) : Prop := ∃ es n, K.lookup a = some ⟨.type "dict", none, .dict es n, #[]⟩ ∧ EntI es.toList tab
theorem ktab_of {K : PySem.W.Frag} {a : Addr} {o : Obj} {es : Array DictEntry} {n : Nat} {tab : List (Int × Int)} (h : K.lookup a = some o) (ho : o = ⟨.type "dict", none, .dict es n, #[]⟩) (he : EntI es.toList tab) : KTab K a tab := ⟨es, n, by rw [h, ho], he⟩
def kdD (tab : List (Int × Int)) : D → Option D
  | .int k => (tab.lookup k).bind fun v => some (.int v)
  | _ => none
theorem entI_n : EntI [] [] := trivial
theorem entI_c {e : DictEntry} {r : List DictEntry} {k v : Int} {t : List (Int × Int)} (h1 : ∃ t1, e.key = .int k t1) (h2 : e.hash = hashInt k) (h3 : ∃ t2, e.val = .int v t2) (h4 : EntI r t) : EntI (e :: r) ((k, v) :: t) := ⟨h1, h2, h3, h4⟩
theorem entI_keys : ∀ {es : List DictEntry} {tab : List (Int × Int)}, EntI es tab → ∀ e ∈ es, ∃ k t, e.key = .int k t ∧ e.hash = hashInt k
  | e :: r, (k, v) :: t, h, x, hx => by
    rcases List.mem_cons.mp hx with rfl | hx
    · obtain ⟨t1, h1⟩ := h.1
      exact ⟨k, t1, h1, h.2.1⟩
    · exact entI_keys h.2.2.2 x hx
theorem entI_find : ∀ {es : List DictEntry} {tab : List (Int × Int)} {k v : Int}, EntI es tab → tab.lookup k = some v → ∃ t, (es.find? fun e => Value.isInt k e.key).map (·.val) = some (.int v t)
  | e :: r, (k', v') :: t, k, v, h, hl => by
    obtain ⟨⟨t1, h1⟩, h2, ⟨t2, h3⟩, h4⟩ := h
    rw [List.lookup_cons] at hl
    by_cases hk : k = k'
    · subst hk
      rw [beq_self_eq_true] at hl
      cases hl
      refine ⟨t2, ?_⟩
      rw [List.find?_cons_of_pos (by rw [h1]; simp [Value.isInt])]
      simp [h3]
    · have : (k == k') = false := beq_eq_false_iff_ne.mpr hk
      rw [this] at hl
      obtain ⟨t3, ih⟩ := entI_find h4 hl
      refine ⟨t3, ?_⟩
      rw [List.find?_cons_of_neg (by rw [h1]; simp [Value.isInt]; exact fun z => hk z.symm)]
      exact ih
  | [], _ :: _, _, _, h, _ => h.elim
  | _ :: _, [], _, _, h, _ => h.elim
  | [], [], _, _, _, hl => by cases hl
section
variable {X : Cx} {M : Mem} {b : Expr} {f h : EF} {pos p : Pos}
theorem ix_ktab {tab : List (Int × Int)} : IxR X (fun x y H Q => ∃ a k v, x = .ref a ∧ y = .int k ∧ KTab X.K a tab ∧ tab.lookup k = some v ∧ Q (.int v) H) := by
  intro value slice pins s σ H x y v u Q I rx ry h hs
  obtain ⟨a, k, r, rfl, rfl, ⟨es, n, hl, he⟩, e, q⟩ := h
  obtain rfl : v = Value.ref a := rx
  obtain ⟨t, rfl⟩ := ry
  obtain ⟨t3, hf⟩ := entI_find he e
  have hm : s.heap.MapOf (PySem.intKind X.prog X.w) a (fun k => findBy Value.isInt es k) :=
    ⟨_, es, n, I.kIn _ _ hl, ⟨rfl, rfl, rfl⟩, rfl, fun e he' => by
      obtain ⟨x, t, e1, e2⟩ := entI_keys he e (Array.mem_toList_iff.mpr he')
      exact ⟨x, by rw [e1]; exact intKind_is X.prog X.w x t, e2⟩, fun _ => rfl⟩
  have hv : findBy Value.isInt es k = some (.int r t3) := by
    obtain ⟨l⟩ := es
    unfold findBy
    rw [List.find?_toArray]
    exact hf
  exact tail_any hm.typeIs slot_dict_getitem.lookup (wpAny_getItem_of (intKind_is X.prog X.w k t) hm hv ⟨.int r, H, I.tok _, ⟨_, rfl⟩, q⟩) hs
theorem fe_kdict {x : Str} {tab : List (Int × Int)} (hg : Gl X x) (hm : ∃ a, X.mg x = some (.ref a) ∧ KTab X.K a tab) (hb : FE X M b h) (hs : PlainIx b := by exact fun _ _ => rfl) (hd : (x == ("__debug__" : Str)) = false := by decide) : FE X M (.Subscript (.Name x p) b pos) (c1 (kdD tab) h) := by
  obtain ⟨a, hm, ht⟩ := hm
  refine PE.imp (pe_ix (ix_ktab (tab := tab)) (pe_glob (v := .ref a) hg hm rfl hd) hb hs) fun σ H Q q => ?_
  obtain ⟨H0, av0, av, ρ, d, c, e, k⟩ := q
  obtain ⟨y, e1, e⟩ := bind_some e
  refine ⟨H0, av0, av, ρ, y, c, e1, fun v H1 k1 b1 => ?_⟩
  unfold kdD at e
  split at e
  · obtain ⟨r, e2, e⟩ := bind_some e
    cases e
    cases b1
    exact ⟨a, _, r, rfl, rfl, ht, e2, k _ _ k1 (.int _)⟩
  · cases e
end

/-! ## len(set(..)) of ints -/
def lensetD : D → Option D
  | .list ds => (intsD ds).bind fun ns => if ns.length ≤ 1000 then some (.int ns.eraseDups.length) else none
  | _ => none
section
variable {X : Cx} {M : Mem} {a : Expr} {f : EF} {pos p p2 q : Pos}
theorem fe_lenset (hM : MemOk M) (hc : X.calm = true) (hu : X.A.units + 65 < cLine) (hg : Gl X "len") (hm : X.mg "len" = none) (hg2 : Gl X "set") (hm2 : X.mg "set" = none) (ha : FK X M a f) (na : starEach [a] X.env = (false, eval a X.env) :: starEach [] X.env := by rfl) :
    FE X M (.Call (.Name "len" p) [.Call (.Name "set" p2) [a] [] q] [] pos) (c1 lensetD f) := by
  refine ⟨fun pins s σ H Q I h => ?_⟩
  obtain ⟨H0, av0, av, ρ, d, c, e, k⟩ := h
  obtain ⟨x, e1, e⟩ := bind_some e
  refine Call_ (ld_blt I hg hm PySem.boot_len ?_)
  refine PyProof.Rows.callWith_builtin1 (PyProof.Rows.args_cons ?_ rfl) rfl rfl
  refine Call_ (ld_blt I hg2 hm2 PyProof.Rows.boot_set ?_)
  refine PyProof.Rows.callWith_type1 (PyProof.Rows.args_cons (thn (ha.run pins s σ H _ I ⟨H0, av0, av, ρ, x, c, e1, fun v H1 k1 b1 => (⟨k1, b1⟩ : Kp M noA H H1 ∧ BrK X.K M av H1 v x)⟩) fun v s1 ⟨y, H1, I1, r1, q1⟩ => PyProof.Rows.args_nil ?_) na) na rfl
  obtain ⟨k1, b1⟩ := q1
  unfold lensetD at e
  split at e
  · obtain ⟨ns, e2, e⟩ := bind_some e
    split at e
    · rename_i hl
      cases e
      obtain ⟨l, vs, rfl, hx, r⟩ := b1.list
      rw [ints_of e2] at r
      have ev := r.of_ints
      subst ev
      cases r1
      obtain ⟨its, rv, pl, hz⟩ := I1.list (SqL.of hx)
      have hlen : its.toArray.size = ns.length := by rw [List.size_toArray, ← rv.length, List.length_map]
      refine call_set_list (I1.ok.hd hc) pl.isList (ns := ns) (by simpa using rv.ints) (by rw [hlen]; unfold scanBound; omega) fun h' tk hS hk => ?_
      rw [hlen] at hS
      refine PyProof.Rows.args_nil ?_
      have e4 : (PyProof.Rows.firstMet (fun i => ns.getD i 0) ns.length).length = ns.eraseDups.length := by rw [PySem.W.oss_met, PySem.W.oss_dups]
      obtain ⟨o, es, ep, t, ho, hex, hd, _, _, _, hf, hn⟩ := hS
      rw [e4] at hn
      have hle : ns.eraseDups.length ≤ 1000 := by
        have := PySem.W.oss_len ns
        rw [PySem.W.oss_dups] at this
        omega
      have I2 : Inv X pins σ H1 { s1 with heap := h', toks := tk } := I1.kept fun b o e => hk b o (Heap.lt_size e) e
      exact call_len_set ho hex hd hf (by rw [hn]; omega) ⟨.int ns.eraseDups.length, H1, I2.tok _, ⟨_, by rw [hn]⟩, k _ _ k1 (.int _)⟩
    · cases e
  · cases e
end

/-! ## sorted of ints -/
def isort (ns : List Int) : List Int := ns.mergeSort fun a b => decide (a ≤ b)
theorem isort_of {ns ms : List Int} (h : ms.Perm ns) (hs : ms.Pairwise (· ≤ ·)) : ms = isort ns := by
  have h1 : (isort ns).Perm ns := List.mergeSort_perm _ _
  have h2 : (isort ns).Pairwise (fun a b => (decide (a ≤ b)) = true) := List.pairwise_mergeSort (fun a b c h1 h2 => by simp at *; omega) (fun a b => by simp; omega) ns
  refine List.Perm.eq_of_pairwise (le := fun a b => a ≤ b) ?_ hs (h2.imp fun h => by simpa using h) (h.trans h1.symm)
  intro a b _ _ x y
  exact Int.le_antisymm x y

/-! ## max, min -/
theorem foldl_max : ∀ (n : Int) (r : List Int), r.foldl max n ∈ n :: r ∧ ∀ y ∈ n :: r, y ≤ r.foldl max n
  | n, [] => ⟨List.mem_cons_self, fun y hy => by simp at hy; rw [hy]; exact Int.le_refl _⟩
  | n, k :: r => by
    obtain ⟨h1, h2⟩ := foldl_max (max n k) r
    show r.foldl max (max n k) ∈ _ ∧ ∀ y ∈ _, y ≤ r.foldl max (max n k)
    refine ⟨?_, fun y hy => ?_⟩
    · rcases List.mem_cons.mp h1 with h | h
      · rw [h]
        rcases Int.le_total n k with z | z
        · rw [Int.max_eq_right z]; exact List.mem_cons_of_mem _ List.mem_cons_self
        · rw [Int.max_eq_left z]; exact List.mem_cons_self
      · exact List.mem_cons_of_mem _ (List.mem_cons_of_mem _ h)
    · have h3 := h2 (max n k) List.mem_cons_self
      rcases List.mem_cons.mp hy with rfl | hy
      · omega
      · rcases List.mem_cons.mp hy with rfl | hy
        · omega
        · exact h2 y (List.mem_cons_of_mem _ hy)
theorem foldl_min : ∀ (n : Int) (r : List Int), r.foldl min n ∈ n :: r ∧ ∀ y ∈ n :: r, r.foldl min n ≤ y
  | n, [] => ⟨List.mem_cons_self, fun y hy => by simp at hy; rw [hy]; exact Int.le_refl _⟩
  | n, k :: r => by
    obtain ⟨h1, h2⟩ := foldl_min (min n k) r
    show r.foldl min (min n k) ∈ _ ∧ ∀ y ∈ _, r.foldl min (min n k) ≤ y
    refine ⟨?_, fun y hy => ?_⟩
    · rcases List.mem_cons.mp h1 with h | h
      · rw [h]
        rcases Int.le_total n k with z | z
        · rw [Int.min_eq_left z]; exact List.mem_cons_self
        · rw [Int.min_eq_right z]; exact List.mem_cons_of_mem _ List.mem_cons_self
      · exact List.mem_cons_of_mem _ (List.mem_cons_of_mem _ h)
    · have h3 := h2 (min n k) List.mem_cons_self
      rcases List.mem_cons.mp hy with rfl | hy
      · omega
      · rcases List.mem_cons.mp hy with rfl | hy
        · omega
        · exact h2 y (List.mem_cons_of_mem _ hy)
theorem DpInts (K : PySem.W.Frag) (H : Hp) : ∀ ns : List Int, DpAll K H (ns.map V.int) (ns.map PyData.int)
  | [] => .nil
  | n :: r => .cons (.int n) (DpInts K H r)
theorem alike_ints (ns : List Int) : PySem.W.AlikeAll (ns.map PyData.int) := by
  refine ⟨fun x hx y hy => ?_, fun x hx => ?_⟩
  · obtain ⟨a, _, rfl⟩ := List.mem_map.mp hx
    obtain ⟨b, _, rfl⟩ := List.mem_map.mp hy
    simp [PySem.W.alike]
  · obtain ⟨a, _, rfl⟩ := List.mem_map.mp hx
    exact fun z => nomatch z
theorem depth_ints : ∀ ns : List Int, PyData.depthAll (ns.map PyData.int) = 0
  | [] => by simp [PyData.depthAll]
  | n :: r => by
    rw [List.map_cons, PyData.depthAll, depth_ints r]
    simp [PyData.depth]
def maxL (ns : List Int) : Option Int := ns.find? fun m => ns.all fun y => decide (y ≤ m)
def minL (ns : List Int) : Option Int := ns.find? fun m => ns.all fun y => decide (m ≤ y)
def maxD : List D → Option D
  | [.list ds] => (intsD ds).bind fun ns => (maxL ns).bind fun m => some (.int m)
  | [.tuple ds] => (intsD ds).bind fun ns => (maxL ns).bind fun m => some (.int m)
  | [.int i, .int j] => some (.int (if j > i then j else i))
  | _ => none
def minD : List D → Option D
  | [.list ds] => (intsD ds).bind fun ns => (minL ns).bind fun m => some (.int m)
  | [.tuple ds] => (intsD ds).bind fun ns => (minL ns).bind fun m => some (.int m)
  | [.int i, .int j] => some (.int (if j < i then j else i))
  | _ => none
section
variable {X : Cx} {M : Mem}
theorem maxL_some {ns : List Int} {m : Int} (h : maxL ns = some m) : m ∈ ns ∧ ∀ y ∈ ns, y ≤ m := by
  unfold maxL at h
  refine ⟨List.mem_of_find?_eq_some h, ?_⟩
  have := List.find?_some h
  simpa using this
theorem minL_some {ns : List Int} {m : Int} (h : minL ns = some m) : m ∈ ns ∧ ∀ y ∈ ns, m ≤ y := by
  unfold minL at h
  refine ⟨List.mem_of_find?_eq_some h, ?_⟩
  have := List.find?_some h
  simpa using this
theorem c_max (hc : X.calm = true) (hu : X.A.units + 65 < cLine) : CallR X (.builtin "max") (rC X.K M maxD) := by
  intro pins s σ H xs us Q I r h
  obtain ⟨av, ds, z, b, hd, g, k⟩ := h
  unfold maxD at g
  split at g
  · obtain ⟨ns, e1, g⟩ := bind_some g
    obtain ⟨m, e2, g⟩ := bind_some g
    cases g
    obtain ⟨v, rfl, b1⟩ := one_k b
    obtain ⟨a, vs, rfl, ha, r1⟩ := b1.list
    rw [ints_of e1] at r1
    have e := r1.of_ints
    subst e
    obtain ⟨h1, h2⟩ := maxL_some e2
    refine cr_max hc pins s σ H _ us Q I r ⟨a, ns, rfl, SqL.of ha, List.length_pos_of_mem h1, fun m' h3 h4 => ?_⟩
    have : m' = m := Int.le_antisymm (h2 m' h3) (h4 m h1)
    subst this
    exact k _ _ Kp.refl (.int _)
  · obtain ⟨ns, e1, g⟩ := bind_some g
    obtain ⟨m, e2, g⟩ := bind_some g
    cases g
    obtain ⟨v, rfl, b1⟩ := one_k b
    obtain ⟨a, vs, rfl, ha, r1⟩ := b1.tuple
    rw [ints_of e1] at r1
    have e := r1.of_ints
    subst e
    obtain ⟨h1, h2⟩ := maxL_some e2
    obtain ⟨its, rv, pt, hz⟩ := I.tuple (SqT.of ha)
    have hd := DpInts X.K H ns
    obtain ⟨as, hr⟩ := Dp.readsAll I _ _ its hd rv
    rw [Vals.ref1 r]
    cases ns with
    | nil => cases h1
    | cons n ns =>
      refine PySem.W.max_tuple_data (I.ok.hd hc) (show s.heap.IsTuple a its.toArray from pt) (by simpa using hr) (alike_ints (n :: ns)) (by have z := depth_ints (n :: ns); rw [List.map_cons] at z; rw [z]; omega) fun i v h' tk bs hv hR hk => ?_
      rw [PySem.W.maxD_ints] at hR
      cases hR
      obtain ⟨q1, q2⟩ := foldl_max n ns
      have em : ns.foldl max n = m := Int.le_antisymm (h2 _ q1) (q2 m h1)
      rw [em] at *
      exact ⟨.int m, H, I.kept fun b o e => hk b o e, ⟨_, rfl⟩, k _ _ Kp.refl (.int _)⟩
  · cases g
    obtain ⟨v, w, rfl, b1, b2⟩ := two_k b
    exact call_max2 hc pins s σ H _ us Q I r ⟨_, _, by rw [b1.int_, b2.int_], k _ _ Kp.refl (.int _)⟩
  · cases g
theorem c_min (hc : X.calm = true) (hu : X.A.units + 65 < cLine) : CallR X (.builtin "min") (rC X.K M minD) := by
  intro pins s σ H xs us Q I r h
  obtain ⟨av, ds, z, b, hd, g, k⟩ := h
  unfold minD at g
  split at g
  · obtain ⟨ns, e1, g⟩ := bind_some g
    obtain ⟨m, e2, g⟩ := bind_some g
    cases g
    obtain ⟨v, rfl, b1⟩ := one_k b
    obtain ⟨a, vs, rfl, ha, r1⟩ := b1.list
    rw [ints_of e1] at r1
    have e := r1.of_ints
    subst e
    obtain ⟨h1, h2⟩ := minL_some e2
    refine cr_min hc pins s σ H _ us Q I r ⟨a, ns, rfl, SqL.of ha, List.length_pos_of_mem h1, fun m' h3 h4 => ?_⟩
    have : m' = m := Int.le_antisymm (h4 m h1) (h2 m' h3)
    subst this
    exact k _ _ Kp.refl (.int _)
  · obtain ⟨ns, e1, g⟩ := bind_some g
    obtain ⟨m, e2, g⟩ := bind_some g
    cases g
    obtain ⟨v, rfl, b1⟩ := one_k b
    obtain ⟨a, vs, rfl, ha, r1⟩ := b1.tuple
    rw [ints_of e1] at r1
    have e := r1.of_ints
    subst e
    obtain ⟨h1, h2⟩ := minL_some e2
    obtain ⟨its, rv, pt, hz⟩ := I.tuple (SqT.of ha)
    have hd := DpInts X.K H ns
    obtain ⟨as, hr⟩ := Dp.readsAll I _ _ its hd rv
    rw [Vals.ref1 r]
    cases ns with
    | nil => cases h1
    | cons n ns =>
      refine PySem.W.min_tuple_data (I.ok.hd hc) (show s.heap.IsTuple a its.toArray from pt) (by simpa using hr) (alike_ints (n :: ns)) (by have z := depth_ints (n :: ns); rw [List.map_cons] at z; rw [z]; omega) fun i v h' tk bs hv hR hk => ?_
      rw [PySem.W.minD_ints] at hR
      cases hR
      obtain ⟨q1, q2⟩ := foldl_min n ns
      have em : ns.foldl min n = m := Int.le_antisymm (q2 m h1) (h2 _ q1)
      rw [em] at *
      exact ⟨.int m, H, I.kept fun b o e => hk b o e, ⟨_, rfl⟩, k _ _ Kp.refl (.int _)⟩
  · cases g
    obtain ⟨v, w, rfl, b1, b2⟩ := two_k b
    exact call_min2 hc pins s σ H _ us Q I r ⟨_, _, by rw [b1.int_, b2.int_], k _ _ Kp.refl (.int _)⟩
  · cases g
end
theorem maxL_of {ns : List Int} {m : Int} (h1 : m ∈ ns) (h2 : ∀ y ∈ ns, y ≤ m) : maxL ns = some m := by
  unfold maxL
  cases e : ns.find? fun m => ns.all fun y => decide (y ≤ m) with
  | none =>
    have := List.find?_eq_none.mp e m h1
    exact absurd (by simpa using h2) (by simpa using this)
  | some m' =>
    obtain ⟨q1, q2⟩ := maxL_some e
    rw [Int.le_antisymm (h2 m' q1) (q2 m h1)]
theorem minL_of {ns : List Int} {m : Int} (h1 : m ∈ ns) (h2 : ∀ y ∈ ns, m ≤ y) : minL ns = some m := by
  unfold minL
  cases e : ns.find? fun m => ns.all fun y => decide (m ≤ y) with
  | none =>
    have := List.find?_eq_none.mp e m h1
    exact absurd (by simpa using h2) (by simpa using this)
  | some m' =>
    obtain ⟨q1, q2⟩ := minL_some e
    rw [Int.le_antisymm (q2 m h1) (h2 m' q1)]
end G

namespace G
open PySem PySem.Spec PyProof.Rows L2

/-! ## sorting, where the first key may be an empty tuple -/
section
open PySem.Calls PySem.SeqAt
variable {prog : Program} {w : World} {A : Around} {E : Value → Shared → Prop} {s : Shared}
theorem call_tuple_lt {Q : Value → Shared → Prop} {l b : Addr} {items items2 : Array Value} {e r : Nat → Bool} (hl : s.heap.IsTuple l items) (hb : s.heap.IsTuple b items2)
    (he : ∀ j (h1 : j < items.size) (h2 : j < items2.size), EqAt A.in1 s items[j] items2[j] (e j)) (hr : ∀ j (h1 : j < items.size) (h2 : j < items2.size), e j = false → RcLt A.in1 s items[j] items2[j] (r j))
    (h : Q (.bool (firstLt e r (decide (items.size < items2.size)) (List.range (min items.size items2.size)))) s) : wpAny (model prog w) A (call (.builtin "tuple.__lt__") [.ref l, .ref b]) Q E s := by
  obtain ⟨⟨cls, dd, data, sl⟩, ho, hc, n, hd⟩ := id hl
  obtain ⟨⟨cls2, dd2, data2, sl2⟩, ho2, hc2, n2, hd2⟩ := id hb
  simp only at hc hd hc2 hd2
  subst hc hd hc2 hd2
  exact call_meets F.slot_tuple_lt ⟨_, ho, rfl⟩ F.entry_tuple_lt (F.args_tuple_lt_2 _ _) (tuple_ltAt l b items items2 n n2 dd dd2 sl sl2 e r) ⟨ho, ho2, he, hr, h⟩
theorem oneLt_tup {xs ys : List PyData} {a b : Value} {as bs : List Addr} {Q : Bool → Shared → Prop} (ra : Reads s.heap a (.tuple xs) as) (rb : Reads s.heap b (.tuple ys) bs) (h : PySem.W.alike (.tuple xs) (.tuple ys) = true)
    (hu : A.units + min (PyData.tuple xs).depth (PyData.tuple ys).depth < cLine) (hq : Q (PySem.W.dataLt (.tuple xs) (.tuple ys)) s) : wpAny (model prog w) A (PyProof.Rows.oneLt' true a b) Q E s := by
  have hal : PySem.W.alikeAll xs ys = true := by simpa [PySem.W.alike] using h
  cases ra with
  | @tuple l o vs n _ as₁ h1 h2 h3 h4 =>
    cases rb with
    | @tuple l' o' vs' n' _ bs₁ k1 k2 k3 k4 =>
      have n1 : vs.size = xs.length := by simpa using ReadsAll.length _ _ _ h4
      have n2 : vs'.size = ys.length := by simpa using ReadsAll.length _ _ _ k4
      rw [PySem.W.dataLt_tuple, ← PySem.W.firstLt_toks xs ys hal, ← n1, ← n2] at hq
      rw [PyProof.Rows.oneLt'_eq]
      simp only [if_true]
      refine wpAny_bind (wpAny_cRoomFor (room_here hu) ?_)
      refine wpAny_bind (wpAny_callSpecialIfBound?_slot (T := "tuple") ⟨_, h1, h2⟩ F.slot_tuple_lt (call_tuple_lt (e := pairEq xs ys) (r := fun j => PySem.W.dataLt (xs.getD j .none) (ys.getD j .none)) ⟨_, h1, h2, _, h3⟩ ⟨_, k1, k2, _, k3⟩ (fun j j1 j2 => ?_) (fun j j1 j2 hj => ?_) ?_))
      · have := PySem.W.eqAt_alikeAll xs ys A.in1 s vs.toList vs'.toList _ _ h4 k4 hal (room_in hu) j (by simpa using j1) (by simpa using j2)
        simpa using this
      · have := PySem.W.rcLt_alikeAll xs ys A.in1 s vs.toList vs'.toList _ _ h4 k4 hal (room_in hu) j (by simpa using j1) (by simpa using j2) hj
        simpa using this
      · exact wpAny_truthy_bool hq
/-- the first items of tuples, where the first is empty -/
theorem firsts_tup {M : Model} {E : Value → Shared → Prop} : ∀ {vs : List Value} {ds : List PyData} {Q : List (Option Value) → Shared → Prop}, PySem.W.EachIs (fun v d => ∃ as, Reads s.heap v d as) vs ds → (∀ d ∈ ds, ∃ xs, d = .tuple xs) →
    (∀ fs, fs.length = vs.length → (∀ r, ds = .tuple [] :: r → fs[0]? = some none) → Q fs s) → wpAny M A (vs.mapM firstOfTuple') Q E s
  | _, _, Q, .nil, _, h => by
    rw [List.mapM_nil]
    exact wpAny_pure (h [] rfl fun r e => nomatch e)
  | _, _, Q, .cons (b := d) ⟨as, r⟩ t, ht, h => by
    obtain ⟨xs, rfl⟩ := ht d List.mem_cons_self
    rw [List.mapM_cons]
    refine wpAny_bind ?_
    cases r with
    | @tuple l o vs n _ as₁ h1 h2 h3 h4 =>
      rw [PySem.W.kas_first_eq]
      refine wpAny_bind (PySem.W.Looks.here (show PySem.W.Looks M s.heap (typeOf (.ref l)) o.cls from (PySem.W.Looks.ld h1).andThen .now) ?_)
      rw [h2, if_neg (by first | decide | simp)]
      refine wpAny_bind (PyProof.Rows.listItems_at h1 h3 (wpAny_pure ?_))
      refine wpAny_bind (firsts_tup (Q := fun bs s' => wpAny M A (pure (vs[0]? :: bs)) Q E s') t (fun d hd => ht d (List.mem_cons_of_mem _ hd)) fun fs hl _ => wpAny_pure (h _ (by simp [hl]) fun r e => ?_))
      cases e
      have n1 : vs.size = 0 := by simpa using ReadsAll.length _ _ _ h4
      rw [List.getElem?_cons_zero, Array.getElem?_eq_none (by omega)]
theorem SortsAt_empty {vs : List Value} {ds : List PyData} (e : PySem.W.EachIs (fun v d => ∃ as, Reads s.heap v d as) vs (.tuple [] :: ds)) (hal : PySem.W.AllAlike (.tuple [] :: ds)) (ht : ∀ d ∈ (PyData.tuple [] :: ds), ∃ xs, d = .tuple xs) (hu : ∀ d, d ∈ (PyData.tuple [] :: ds) → A.units + d.depth < cLine) :
    PySem.W.SortsAt prog w A s (PySem.W.dataKind s.heap (.tuple [] :: ds)) vs := by
  refine ⟨fun v hv => ?_, PyProof.Rows.oneType', ?_, fun h2 E Q hq => ?_⟩
  · obtain ⟨d, hd, as, r⟩ := e.left v hv
    exact ⟨_, PySem.W.dataKind_some hal hd r⟩
  · intro E x y a b Q ha hb hq
    obtain ⟨d, as, hd, ra, rfl⟩ := PySem.W.dataKind_inv ha
    obtain ⟨d', as', hd', rb, rfl⟩ := PySem.W.dataKind_inv hb
    have hdd := hal d hd d' hd'
    have hroom : A.units + min d.depth d'.depth < cLine := Nat.lt_of_le_of_lt (Nat.add_le_add_left (Nat.min_le_left _ _) _) (hu d hd)
    obtain ⟨xs, rfl⟩ := ht d hd
    obtain ⟨ys, rfl⟩ := ht d' hd'
    rw [PyProof.Rows.keyLt'_oneType]
    exact oneLt_tup ra rb hdd hroom hq
  · have hT : ∀ v ∈ vs, PySem.W.Looks (model prog w) s.heap (typeOf v) (Value.type "tuple") := fun v hv => by
      obtain ⟨d, hd, as, r⟩ := e.left v hv
      obtain ⟨xs, rfl⟩ := ht d hd
      exact PySem.W.looks_reads r
    rw [PyProof.Rows.keyKind'_eq, List.mapM_toArray, map_eq_pure_bind]
    refine wpAny_bind (wpAny_bind (firsts_tup e ht fun fs hl h0 => wpAny_pure ?_))
    have h00 : fs.toArray[0]? = some none := by rw [List.getElem?_toArray]; exact h0 ds rfl
    have hna : ¬ (fs.toArray.all fun x => x.isSome) = true := by
      intro z
      rw [List.all_toArray, List.all_eq_true] at z
      have m : (none : Option Value) ∈ fs := List.mem_of_getElem? (h0 ds rfl)
      exact absurd (z _ m) (by simp)
    rw [if_neg hna, h00]
    rw [if_neg (by simp)]
    obtain ⟨v₁, v₂, rest, rfl⟩ : ∃ v₁ v₂ rest, vs = v₁ :: v₂ :: rest := by
      match vs, h2 with
      | [], h2 => simp at h2
      | [_], h2 => simp at h2
      | v₁ :: v₂ :: rest, _ => exact ⟨v₁, v₂, rest, rfl⟩
    rw [PyProof.Rows.oneTypeOnly'_eq, List.mapM_toArray, map_eq_pure_bind]
    refine wpAny_bind (wpAny_bind (wpAny_bind (PySem.W.kas_mapM (r := Value.type "tuple") _ (fun v hv Q' hq => (hT v hv).here hq) (wpAny_pure ?_))))
    have hall : ((List.map (fun _ => Value.type "tuple") (v₁ :: v₂ :: rest)).toArray.all fun x => x == Value.type "tuple") = true := by
      simp only [List.all_toArray, List.all_map, List.all_eq_true]
      intro _ _
      rfl
    have hz : (List.map (fun _ => Value.type "tuple") (v₁ :: v₂ :: rest)).toArray[0]? = some (Value.type "tuple") := by simp
    rw [hz]
    simp only [hall, if_true]
    exact wpAny_pure (wpAny_pure hq)
end

def isTupD : D → Bool
  | .tuple _ => true
  | _ => false
/-- what may be sorted -/
def okSort (ds : List D) : Bool := PyData.canLayAll0 ds && (
  (ds.all fun a => ds.all fun b => PySem.W.alike a b) && (ds.all fun d => decide (d.depth ≤ 12)) &&
  ((ds.all fun d => match d with | .tuple (_ :: _) => true | _ => false) || (ds.all fun d => match d with | .tuple _ => false | .none => false | _ => true) ||
   (match ds with | .tuple [] :: _ => ds.all isTupD | _ => false)))
theorem okSort_of {ds : List D} (h : okSort ds = true) : PyData.canLayAll0 ds = true ∧ PySem.W.AllAlike ds ∧ (∀ d ∈ ds, d.depth ≤ 12) ∧ (PySem.W.Sortable ds ∨ ∃ r, ds = .tuple [] :: r ∧ ∀ d ∈ ds, ∃ xs, d = .tuple xs) := by
  unfold okSort at h
  rw [Bool.and_eq_true, Bool.and_eq_true, Bool.and_eq_true] at h
  obtain ⟨h0, ⟨h1, h2⟩, h3⟩ := h
  refine ⟨h0, fun d hd d' hd' => ?_, fun d hd => ?_, ?_⟩
  · rw [List.all_eq_true] at h1
    have := h1 d hd
    rw [List.all_eq_true] at this
    exact this d' hd'
  · rw [List.all_eq_true] at h2
    simpa using h2 d hd
  · rw [Bool.or_eq_true, Bool.or_eq_true] at h3
    rcases h3 with (h3 | h3) | h3
    · rw [List.all_eq_true] at h3
      refine .inl (.inl fun d hd => ?_)
      have := h3 d hd
      split at this
      · exact ⟨_, _, rfl⟩
      · cases this
    · rw [List.all_eq_true] at h3
      refine .inl (.inr fun d hd => ?_)
      have := h3 d hd
      split at this
      · cases this
      · cases this
      · rename_i n1 n2
        exact ⟨fun e => n2 e, fun xs e => n1 xs e⟩
    · split at h3
      · rename_i r
        refine .inr ⟨_, rfl, fun d hd => ?_⟩
        rw [List.all_eq_true] at h3
        have := h3 d hd
        unfold isTupD at this
        split at this
        · exact ⟨_, rfl⟩
        · cases this
      · cases h3
/-- sorted(xs) -/
def dsort (ds : List D) : List D := ds.mergeSort (PySem.W.dataLe false id)
def sortedD : List D → Option D
  | [.list ds] => if okSort ds = true then some (.list (dsort ds)) else none
  | [.tuple ds] => if okSort ds = true then some (.list (dsort ds)) else none
  | _ => none
section
variable {X : Cx} {M : Mem}
open PySem.Calls
theorem collect_seqC {prog : Program} {w : World} {A : Around} {E : Value → Shared → Prop} {s : Shared} {l : Addr} {T : String} {o : Obj} {vs : List Value} {n : Nat} {Q : List Value → Shared → Prop} (hT : T = "list" ∨ T = "tuple")
    (ho : s.heap.get? l = some o) (hc : o.cls = .type T) (hd : o.data = .seq vs.toArray n) (hsz : vs.length ≤ sizeLine)
    (h : Q vs { s with heap := (s.heap.push (seqObj "list" #[] 0)).update s.heap.objs.size (Obj.mapSeq (· ++ vs.toArray)) }) :
    wpAny (model prog w) A (collect (.ref l)) Q E s := by
  unfold collect
  refine wpAny_bind (wpAny_runValue (codeAny_builtin entry_proto_collect' ?_))
  show wpAny _ _ (do again (.builtin "list.__iadd__" ⟨[← newList [], .ref l], []⟩)) _ _ s
  refine wpAny_bind (wpAny_newList (wpAny_pure ⟨Code.quiet_builtin _ (by decide +kernel), codeAny_builtin entry_list_iadd' ?_⟩))
  show wpAny _ _ (Builtin.List.listExtendWith (.ref s.heap.objs.size) (.ref l) (.ref s.heap.objs.size)) _ _ { s with heap := s.heap.push (seqObj "list" #[] 0) }
  unfold Builtin.List.listExtendWith
  have ho' : (s.heap.push (seqObj "list" #[] 0)).get? l = some o := Heap.get?_push_of_some _ ho
  refine wpAny_bind (wpAny_typeOf (T := T) ⟨o, ho', hc⟩ ?_)
  rw [if_pos (by
    rw [Bool.or_eq_true, Bool.or_eq_true]
    rcases hT with rfl | rfl
    · exact .inl (.inr rfl)
    · exact .inr rfl)]
  refine wpAny_bind (listItems_at ho' hd ?_)
  refine wpAny_bind (listItems_at (xs := #[]) (n := 0) (Heap.get?_push_size _ rfl) rfl ?_)
  rw [if_neg (by simp)]
  refine wpAny_bind (listUpdate_at (xs := #[]) (n := 0) (Heap.get?_push_size _ rfl) rfl ?_ (Nat.zero_le _) (by show (#[] ++ vs.toArray).size ≤ sizeLine + 1; simp only [Array.size_append, List.size_toArray, List.length_nil]; omega))
  refine wpAny_pure ?_
  show wpAny (model prog w) A (do
      let o ← load s.heap.objs.size
      match o.data with
      | .seq xs _ => pure xs.toList
      | _ => unsupported "internal:collect") Q E { s with heap := (s.heap.push (seqObj "list" #[] 0)).update s.heap.objs.size (Obj.mapSeq (· ++ vs.toArray)) }
  refine wpAny_bind (wpAny_load (get?_update_seq (Heap.get?_push_size _ rfl) _) ?_)
  show wpAny _ _ (pure ((#[] : Array Value) ++ vs.toArray).toList) Q E _
  rw [show ((#[] : Array Value) ++ vs.toArray).toList = vs by simp]
  exact wpAny_pure h
theorem sorted_seqv {prog : Program} {w : World} {A : Around} {E : Value → Shared → Prop} {s : Shared} {it : Addr} {T : String} {o : Obj} {vs : List Value} {n : Nat} {Q : Value → Shared → Prop} (hT : T = "list" ∨ T = "tuple")
    (ho : s.heap.get? it = some o) (hc : o.cls = .type T) (hd : o.data = .seq vs.toArray n) (hL : vs.length ≤ sizeLine)
    (S : ∀ h₁ : Heap, (∀ b o', s.heap.get? b = some o' → h₁.get? b = some o') → ∃ κ, PySem.W.SortsAt prog w A.in1.in1 { s with heap := h₁ } κ vs ∧
      ∀ (a : Addr) (h₂ : Heap) (k : Nat), s.heap.objs.size ≤ a → (∀ b o', s.heap.get? b = some o' → h₂.get? b = some o') → h₂.get? a = some (seqObj "list" (PySem.W.sortVals κ false vs vs).toArray k) → Q (.ref a) { s with heap := h₂ }) :
    wpAny (model prog w) A (call (.builtin "sorted") [.ref it]) Q E s := by
  refine call_function_entry kind_sorted plain_sorted entry_sorted (args_sorted1 _) ?_
  unfold Builtin.«sorted»
  refine wpAny_bind (m := checkCount "sorted" 1 1 _) (wpAny_pure ?_)
  refine wpAny_bind (collect_seqC hT ho hc hd hL ?_)
  obtain ⟨h', eh'⟩ : ∃ h', h' = (s.heap.push (seqObj "list" #[] 0)).update s.heap.objs.size (Obj.mapSeq (· ++ vs.toArray)) := ⟨_, rfl⟩
  rw [← eh']
  have hsz : s.heap.objs.size ≤ h'.objs.size := by rw [eh', Heap.size_update, size_push']; omega
  have hk : ∀ b o', s.heap.get? b = some o' → h'.get? b = some o' := fun b o' e => by
    rw [eh', Heap.get?_update_ne _ _ _ _ (Nat.ne_of_lt (Heap.lt_size e))]
    exact Heap.get?_push_of_some _ e
  clear eh'
  refine wpAny_bind (wpAny_newList ?_ (by simpa using hL))
  show wpAny _ _ _ _ _ { s with heap := h'.push (seqObj "list" vs.toArray 0) }
  have ha : (h'.push (seqObj "list" vs.toArray 0)).get? h'.objs.size = some (seqObj "list" vs.toArray 0) := Heap.get?_push_size _ rfl
  have hk2 : ∀ b o', s.heap.get? b = some o' → (PySem.W.sortingHeap (h'.push (seqObj "list" vs.toArray 0)) h'.objs.size vs).get? b = some o' := fun b o' e =>
    PySem.W.sortingHeap_old (fun z => by subst z; exact absurd (Heap.lt_size (hk _ _ e)) (Nat.lt_irrefl _)) (Heap.get?_push_of_some _ (hk b o' e))
  obtain ⟨κ, SS, q⟩ := S _ hk2
  refine wpAny_bind (wpAny_holding (wpAny_call_entry slot_list_sort ⟨_, ha, rfl⟩ entry_list_sort (PySem.W.list_sort_vals (s := { s with heap := h'.push (seqObj "list" vs.toArray 0) }) ha SS hL ?_) (args_list_sort _)))
  obtain ⟨k, hf⟩ := sortedHeap_at (vs := vs) (out := (PySem.W.sortVals κ false vs vs).toArray) ha
  refine ⟨.none, rfl, wpAny_pure ⟨_, rfl, q _ _ k hsz (fun b o' e => ?_) hf⟩⟩
  have hb : b < h'.objs.size := Heap.lt_size (hk b o' e)
  rw [sortedHeap_old (Nat.ne_of_lt hb) (by rw [size_push']; exact Nat.lt_succ_of_lt hb)]
  exact Heap.get?_push_of_some _ (hk b o' e)
theorem each_zip : ∀ {xs : List V} {us : List Value} {ds : List D}, Vals xs us → xs.length = ds.length → PySem.W.EachIs (fun v (b : V × D) => RelV b.1 v) us (xs.zip ds)
  | _, _, [], .nil, hl => .nil
  | _, _, [], .cons a b, hl => by cases hl
  | _, _, _ :: _, .nil, hl => by cases hl
  | _, _, d :: ds, .cons a b, hl => .cons a (each_zip b (by simpa using hl))
theorem each_reads {h : Heap} : ∀ {xs : List V} {us : List Value} {ds : List D} {as : List Addr}, ReadsAll h us ds as → xs.length = ds.length → PySem.W.EachIs (fun v (b : V × D) => ∃ as, Reads h v b.2 as) us (xs.zip ds)
  | [], _, _, _, r, hl => by
    cases r with
    | nil => exact .nil
    | cons a b => cases hl
  | x :: xs, _, _, _, r, hl => by
    cases r with
    | nil => cases hl
    | cons a b => exact .cons ⟨_, a⟩ (each_reads b (by simpa using hl))
theorem vals_each : ∀ {us : List Value} {bs : List (V × D)}, PySem.W.EachIs (fun v (b : V × D) => RelV b.1 v) us bs → Vals (bs.map (·.1)) us
  | _, _, .nil => .nil
  | _, _, .cons a b => .cons a (vals_each b)
theorem brl_pairs {K : PySem.W.Frag} {av : Av} {H : Hp} : ∀ {bs : List (V × D)}, (∀ b ∈ bs, Br K M av H b.1 b.2) → BrL K M av H (bs.map (·.1)) (bs.map (·.2))
  | [], _ => .nil
  | b :: bs, h => .cons (h b List.mem_cons_self) (brl_pairs fun c hc => h c (List.mem_cons_of_mem _ hc))
theorem brl_zip {K : PySem.W.Frag} {av : Av} {H : Hp} : ∀ {xs : List V} {ds : List D}, BrL K M av H xs ds → ∀ b ∈ xs.zip ds, Br K M av H b.1 b.2
  | _, _, .nil, b, hb => by cases hb
  | _, _, .cons a r, b, hb => by
    rcases List.mem_cons.mp hb with rfl | hb
    · exact a
    · exact brl_zip r b hb
theorem sort_in {pins : List (Addr × Obj)} {σ : L2.St} {H : Hp} {s : Shared} {Q : VK} (hM : MemOk M) (hu : X.A.units + 65 < cLine) (I : Inv X pins σ H s) {av : Av} {it : Addr} {T : String} {o : Obj} {us : List Value} {n : Nat} {xs : List V} {ds : List D} (hT : T = "list" ∨ T = "tuple")
    (ho : s.heap.get? it = some o) (hc : o.cls = .type T) (hd : o.data = .seq us.toArray n) (hL : xs.length ≤ sizeLine) (hv : Vals xs us) (b : BrL X.K M av H xs ds) (hav : ∀ a, av a → H a ≠ none) (hs : okSort ds = true)
    (k : ∀ v H', Kp M noA H H' → Br X.K M av H' v (.list (dsort ds)) → Q v H') :
    wpAny (model X.prog X.w) X.A (call (.builtin "sorted") [.ref it]) (EP X pins σ Q) X.xe s := by
  obtain ⟨hly, hal, hdp, hso⟩ := okSort_of hs
  have hlay : PyData.canLayAll0 ds = true := hly
  obtain ⟨as, hr⟩ := Dp.readsAll I _ _ us (b.dp hlay) hv
  have hlen : xs.length = ds.length := b.length
  refine sorted_seqv hT ho hc hd (by rw [← hv.length]; exact hL) fun h₁ hk => ?_
  have hr1 : ∃ as, ReadsAll h₁ us ds as := ⟨as, ReadsAll.keeps hk hr⟩
  obtain ⟨as1, hr1⟩ := hr1
  have he1 := each_reads (xs := xs) hr1 hlen
  have hm2 : (xs.zip ds).map Prod.snd = ds := by rw [List.map_snd_zip]; omega
  have er : PySem.W.EachIs (fun v d => ∃ as, Reads h₁ v d as) us ds := by
    have := PySem.W.each_map (R := fun v d => ∃ as, Reads h₁ v d as) (Prod.snd : V × D → D) he1
    rw [hm2] at this
    exact this
  have hun : ∀ d ∈ ds, X.A.in1.in1.units + d.depth < cLine := fun d hd => by
    have h12 := hdp d hd
    have : X.A.units + 2 + d.depth < cLine := by omega
    exact this
  refine ⟨PySem.W.dataKind h₁ ds, ?_, fun a h₂ k2 ha hk2 hf => ?_⟩
  · rcases hso with hso | ⟨r, rfl, ht⟩
    · exact PySem.W.SortsAt.data (s := { s with heap := h₁ }) er hal hso hun
    · exact SortsAt_empty (s := { s with heap := h₁ }) er hal ht hun
  · have q := PySem.W.sortVals_data (R := fun v (b : V × D) => RelV b.1 v) (enc := Prod.snd) false (each_zip hv hlen) he1 (by rw [hm2]; exact hal)
    rw [hm2] at q
    have hmem : ∀ b' ∈ (xs.zip ds).mergeSort (PySem.W.dataLe false Prod.snd), Br X.K M av H b'.1 b'.2 := fun b' hb => brl_zip b b' ((List.mergeSort_perm _ _).mem_iff.mp hb)
    have hb2 := brl_pairs hmem
    have hsort : ((xs.zip ds).mergeSort (PySem.W.dataLe false Prod.snd)).map (·.2) = dsort ds := by
      have := List.map_mergeSort (r := PySem.W.dataLe false (Prod.snd : V × D → D)) (s := PySem.W.dataLe false id) (f := Prod.snd) (l := xs.zip ds) (fun _ _ _ _ => rfl)
      rw [hm2] at this
      exact this
    rw [hsort] at hb2
    have hfr : H a = none := I.hok.fresh ha
    have hlen2 : (((xs.zip ds).mergeSort (PySem.W.dataLe false Prod.snd)).map (·.1)).length ≤ sizeLine := by
      rw [List.length_map, List.length_mergeSort, List.length_zip]; omega
    exact ⟨.ref a, upd H a (.lst (((xs.zip ds).mergeSort (PySem.W.dataLe false Prod.snd)).map (·.1))), I.laid (t' := s.toks) hk2 ha ⟨hlen2, _, k2, vals_each q, hf⟩, rfl, k _ _ (Kp.new hM hfr) (.lst upd_same (fun z => hav _ z hfr) (hb2.mono (Kp.new hM hfr).of))⟩
theorem c_sorted (hM : MemOk M) (hc : X.calm = true) (hu : X.A.units + 65 < cLine) : CallR X (.builtin "sorted") (rC X.K M sortedD) := by
  intro pins s σ H xs us Q I r h
  obtain ⟨av, ds, z, b, hd, g, k⟩ := h
  unfold sortedD at g
  split at g
  · split at g
    · rename_i hs
      cases g
      obtain ⟨v, rfl, b1⟩ := one_k b
      obtain ⟨a, vs, rfl, ha, r1⟩ := b1.list
      obtain ⟨its, rv, hl, hz⟩ := I.list (SqL.of ha)
      rw [Vals.ref1 r]
      obtain ⟨o, ho, hcl, n, hdat⟩ := hl.isList
      exact sort_in hM hu I (.inl rfl) ho hcl hdat hz rv r1 hd hs k
    · cases g
  · split at g
    · rename_i hs
      cases g
      obtain ⟨v, rfl, b1⟩ := one_k b
      obtain ⟨a, vs, rfl, ha, r1⟩ := b1.tuple
      obtain ⟨its, rv, hl, hz⟩ := I.tuple (SqT.of ha)
      rw [Vals.ref1 r]
      obtain ⟨o, ho, hcl, n, hdat⟩ := show s.heap.IsTuple a its.toArray from hl
      exact sort_in hM hu I (.inr rfl) ho hcl hdat hz rv r1 hd hs k
    · cases g
  · cases g
end
end G

namespace HT
open PySem PySem.Spec PyProof.Rows
section
variable {prog : Program} {w : World} {A : Around} {E : Value → Shared → Prop} {s : Shared}
theorem sliceApplied_rev {sl : Addr} {vs : Value} {n : Nat} {Q : Int × Int × Nat → Shared → Prop} (hs : s.heap.IsSliceOf sl .none .none vs) (pv : IsPart vs (some (-1)))
    (h : Q ((n : Int) - 1, -1, n) s) : wpAny (model prog w) A (Builtin.Slice.sliceApplied (.ref sl) (pure (n : Int))) Q E s := by
  obtain ⟨os, hos, hcs, hds⟩ := id hs
  unfold Builtin.Slice.sliceApplied Builtin.Slice.sliceFields
  refine wpAny_bind (wpAny_bind (wpAny_field hos hds (x := .none) rfl (wpAny_bind (wpAny_field hos hds (x := .none) rfl (wpAny_bind (wpAny_field hos hds (x := vs) rfl (wpAny_pure ?_)))))))
  refine wpAny_bind (slicePart_ pv ?_)
  show wpAny _ _ (if ((-1 : Int) == 0) = true then _ else _) _ _ s
  rw [if_neg (by decide)]
  refine wpAny_bind (slicePart_none (wpAny_bind (slicePart_none (wpAny_bind (wpAny_pure ?_)))))
  show wpAny _ _ (match Builtin.Slice.sliceAdjust none none (-1) (n : Int) with | (lo, hi) => pure (lo, (-1 : Int), Builtin.Slice.slicePlaces lo hi (-1))) _ _ s
  have e1 : Builtin.Slice.sliceAdjust none none (-1) (n : Int) = ((n : Int) - 1, -1) := by
    unfold Builtin.Slice.sliceAdjust
    simp
  rw [e1]
  show wpAny _ _ (pure ((n : Int) - 1, (-1 : Int), Builtin.Slice.slicePlaces ((n : Int) - 1) (-1) (-1))) _ _ s
  have e2 : Builtin.Slice.slicePlaces ((n : Int) - 1) (-1) (-1) = n := by
    unfold Builtin.Slice.slicePlaces
    rw [if_neg (by decide)]
    split
    · rw [show (- -1 : Int) = 1 by decide, Int.ediv_one]; omega
    · omega
  rw [e2]
  exact wpAny_pure h
theorem pick_rev (xs : Array Value) : ((List.range xs.size).filterMap fun (m : Nat) => xs[(((xs.size : Int) - 1) + (m : Int) * -1).toNat]?).toArray = xs.toList.reverse.toArray := by
  have e : ((List.range xs.size).filterMap fun (m : Nat) => xs[(((xs.size : Int) - 1) + (m : Int) * -1).toNat]?) = ((List.range xs.size).map fun k => xs.size - 1 - k).filterMap fun k => xs[k]? := by
    rw [List.filterMap_map]
    have q : ∀ (l : List Nat) (f g : Nat → Option Value), (∀ m ∈ l, f m = g m) → l.filterMap f = l.filterMap g := by
      intro l f g hl
      induction l with
      | nil => rfl
      | cons a l ih =>
        rw [List.filterMap_cons, List.filterMap_cons, hl a List.mem_cons_self, ih fun m hm => hl m (List.mem_cons_of_mem _ hm)]
    refine q _ _ _ fun m hm => ?_
    have := List.mem_range.mp hm
    show _ = xs[xs.size - 1 - m]?
    congr 1
    omega
  rw [e]
  have := PySem.W.krv_pick xs
  unfold slicePick at this
  rw [PySem.W.krv_bounds] at this
  have t2 : ((sliceRange ((xs.size : Int) - 1) (-1) (-1)).filterMap (xs[·]?)).toArray = xs.toList.reverse.toArray := this
  rw [PySem.W.krv_sliceRange] at t2
  exact t2
theorem getItem_tuple_rev {t sl : Addr} {items : Array Value} {vs : Value} {Q : Value → Shared → Prop} (ht : IsTup s.heap t items) (hs : s.heap.IsSliceOf sl .none .none vs) (pv : IsPart vs (some (-1)))
    (h : Q (.ref s.heap.objs.size) { s with heap := s.heap.push { cls := .type "tuple", data := .seq items.toList.reverse.toArray } })
    (hsz : items.size ≤ sizeLine) : wpAny (model prog w) A (getItem (.ref t) (.ref sl)) Q E s := by
  have htake : sizeOk (.seq items.toList.reverse.toArray) := by
    show items.toList.reverse.toArray.size ≤ sizeLine
    simpa using hsz
  obtain ⟨os, hos, hcs, hds⟩ := id hs
  have hTs : s.TypeIs (.ref sl) "slice" := ⟨os, hos, hcs⟩
  unfold getItem
  try with_reducible refine wpAny_holding ?_
  first | refine wpAny_bind (wpAny_pure ?_) | skip
  refine wpAny_bind (wpAny_sequenceKey ht.typeIs (by decide) ?_)
  refine wpAny_bind (wpAny_callSpecial?_slot (name := Str.ofString "__getitem__") ht.typeIs PyProof.Rows.slot_tuple_getitem
    (wpAny_call_entry PyProof.Rows.slot_tuple_getitem ht.typeIs entry_tuple_getitem ?_ (args_tuple_getitem _ _)))
  show wpAny _ _ (Builtin.Tuple.tupleItemsOf (.ref t) >>= _) _ _ s
  refine wpAny_bind (tupleItemsOf_ ht ?_)
  refine wpAny_bind (wpAny_typeOf hTs ?_)
  rw [if_pos (by decide)]
  refine wpAny_bind (sliceApplied_rev hs pv ?_)
  have hno : ¬ ((((items.size : Int) - 1) == 0 && (-1 : Int) == 1 && items.size == items.size) = true) := by
    intro q
    rw [Bool.and_eq_true, Bool.and_eq_true] at q
    exact absurd (eq_of_beq q.1.2) (by decide)
  show wpAny _ _ (if (((items.size : Int) - 1) == 0 && (-1 : Int) == 1 && items.size == items.size) = true then _ else _) _ _ s
  rw [if_neg hno, pick_rev]
  first
    | exact wpAny_bind (m := Builtin.Tuple.tupleExact _) (wpAny_newObj_type (wpAny_pure ⟨_, rfl, wpAny_pure h⟩) htake)
    | exact wpAny_bind (m := Builtin.Tuple.tupleExact _) (wpAny_newObj_type (wpAny_bind (wpAny_pure (wpAny_pure ⟨_, rfl, wpAny_pure h⟩))) htake)
    | exact wpAny_bind (wpAny_bind (m := Builtin.Tuple.tupleExact _) (wpAny_newObj_type (wpAny_pure (wpAny_pure ⟨_, rfl, wpAny_pure h⟩)) htake))
    | exact wpAny_bind (wpAny_bind (m := Builtin.Tuple.tupleExact _) (wpAny_newObj_type (wpAny_pure ⟨_, rfl, wpAny_pure h⟩) htake))
end
end HT
namespace G
open PySem PySem.Spec PyProof.Rows L2
/-! ## xs[::-1] -/
def revD : D → Option D
  | .list ds => some (.list ds.reverse)
  | .tuple ds => some (.tuple ds.reverse)
  | _ => none
section
variable {X : Cx} {M : Mem}
def tRevA (K : PySem.W.Frag) (te : TE) : TE := fun σ H Q => te σ H fun x H1 => ∃ a xs, x = .ref a ∧ ((SqL K H1 a xs ∧ ∀ p, H1 p = none → Q (.ref p) (upd H1 p (.lst xs.reverse))) ∨ (SqT K H1 a xs ∧ ∀ p, H1 p = none → Q (.ref p) (upd H1 p (.tup xs.reverse))))
theorem pe_revA {e : Expr} {te : TE} {k : Nat} {p1 p2 p3 pos : Pos} (he : PE X e te) : PE X (.Subscript e (.Slice none none (some (.UnaryOp .USub (.Constant (.int 1) k p1) p2)) p3) pos) (tRevA X.K te) := by
  refine ⟨fun pins s σ H Q I h => ?_⟩
  refine Subscript_ (thn (he.run pins s σ H _ I h) fun v s1 ⟨x, H1, I1, r1, q1⟩ => ?_)
  obtain ⟨a, xs, ex, q⟩ := q1
  subst ex
  cases r1
  have hst : PO X (some (.UnaryOp .USub (.Constant (.int 1) k p1) p2)) (tPart (tUn (rU fun i => .int (-i)) (tC (.int 1)))) := po_some (pe_un un_neg pe_int)
  refine wpAny_Slice (thn (po_none.run pins s1 σ H1 (fun o H2 => o = none ∧ H2 = H1) I1 ⟨rfl, rfl⟩) fun vl s2 ⟨l, H2, I2, pl, el, e2⟩ => ?_)
  subst el e2
  refine thn (po_none.run pins s2 σ H2 (fun o H3 => o = none ∧ H3 = H2) I2 ⟨rfl, rfl⟩) fun vu s3 ⟨u, H3, I3, pu, eu, e3⟩ => ?_
  subst eu e3
  refine thn (hst.run pins s3 σ H3 (fun o H4 => o = some (-1) ∧ H4 = H3) I3 ⟨1, rfl, -1, rfl, rfl, rfl⟩) fun vs s4 ⟨o, H4, I4, ps, eo, e4⟩ => ?_
  subst eo e4
  have I5 : Inv X pins σ H4 { s4 with heap := s4.heap.push { cls := .type "slice", data := .fields #[vl, vu, vs] } } := I4.kept (t' := s4.toks) fun b ob q => Heap.get?_push_of_some _ q
  show wpAny (model X.prog X.w) X.A (subscriptTail e (.Slice none none (some (.UnaryOp .USub (.Constant (.int 1) k p1) p2)) p3) (.ref a) (.ref s4.heap.objs.size)) (EP X pins σ Q) X.xe { s4 with heap := s4.heap.push { cls := .type "slice", data := .fields #[vl, vu, vs] } }
  rcases q with ⟨hx, q⟩ | ⟨hx, q⟩
  · obtain ⟨its, r, ht, hz⟩ := I5.list hx
    have hlen := r.length
    refine tail_any (ops := [.ref a, .ref s4.heap.objs.size]) ht.isList.typeIs (PySem.slot_list_getitem.lookup) ?_ (by with_unfolding_all rfl)
    refine wpAny_getItem_list_slice ht.isList (Heap.IsSliceOf.new _ vl vu vs) pl pu ps (by decide) ?_ (by rw [List.size_toArray]; omega)
    rw [PySem.W.krv_pick]
    refine ⟨.ref _, _, I5.laid (t' := s4.toks) (o := .lst xs.reverse) (fun b ob q => Heap.get?_push_of_some _ q) (Nat.le_refl _) ?_, rfl, q _ (I5.hok.fresh (Nat.le_refl _))⟩
    exact ⟨by rw [List.length_reverse]; exact hz, _, 0, r.reverse, Heap.get?_push_size _ rfl⟩
  · obtain ⟨its, r, ht, hz⟩ := I5.tuple hx
    have hlen := r.length
    cases pl
    cases pu
    refine tail_any (ops := [.ref a, .ref s4.heap.objs.size]) ht.typeIs (PyProof.Rows.slot_tuple_getitem.lookup) ?_ (by with_unfolding_all rfl)
    refine HT.getItem_tuple_rev ht (Heap.IsSliceOf.new _ _ _ vs) ps ?_ (by rw [List.size_toArray]; omega)
    refine ⟨.ref _, _, I5.laid (t' := s4.toks) (o := .tup xs.reverse) (fun b ob q => Heap.get?_push_of_some _ q) (Nat.le_refl _) ?_, rfl, q _ (I5.hok.fresh (Nat.le_refl _))⟩
    have hg := Heap.get?_push_size (h := { s4 with heap := s4.heap.push { cls := .type "slice", data := .fields #[.none, .none, vs] } }.heap) (o := { cls := .type "tuple", data := .seq its.reverse.toArray }) rfl
    exact ⟨by rw [List.length_reverse]; exact hz, _, r.reverse, ⟨_, hg, rfl, _, rfl⟩⟩
theorem fe_rev {e : Expr} {f : EF} {k : Nat} {p1 p2 p3 pos : Pos} (hM : MemOk M) (he : FK X M e f) : FE X M (.Subscript e (.Slice none none (some (.UnaryOp .USub (.Constant (.int 1) k p1) p2)) p3) pos) (c1 revD f) := PE.imp (pe_revA he) fun σ H Q q => by
  obtain ⟨H0, av0, av, ρ, d, c, e, k⟩ := q
  obtain ⟨x, e1, e⟩ := bind_some e
  refine ⟨H0, av0, av, ρ, x, c, e1, fun v H1 k1 b1 => ?_⟩
  unfold revD at e
  split at e
  · cases e
    obtain ⟨a, vs, rfl, ha, r1⟩ := b1.list
    refine ⟨a, vs, rfl, .inl ⟨SqL.of ha, fun p hp => ?_⟩⟩
    have kn := Kp.new (o := HO.lst vs.reverse) hM hp
    exact k _ _ (k1.trans kn) (.lst upd_same (fun z => (c.mono k1).dom _ z hp) (r1.rev.mono kn.of))
  · cases e
    obtain ⟨a, vs, rfl, ha, r1⟩ := b1.tuple
    refine ⟨a, vs, rfl, .inr ⟨SqT.of ha, fun p hp => ?_⟩⟩
    have kn := Kp.new (o := HO.tup vs.reverse) hM hp
    exact k _ _ (k1.trans kn) (.tup upd_same (r1.rev.mono kn.of))
  · cases e
end
end G

namespace G
open PySem PySem.Spec PyProof.Rows L2
/-! ## methods of lists -/
def countD : D → D → Option D
  | .list ds, .int k => (intsD ds).bind fun ns => some (.int (ns.count k : Nat))
  | _, _ => none
/-- the first place of an equal one -/
def idxOf (ds : List D) (d : D) : Option Nat := ds.findIdx? fun z => PyData.eqv z d
def indexD : D → D → Option D
  | .list ds, d => if SeqAt.shaped (.list ds) = true ∧ SeqAt.shaped d = true then (idxOf ds d).bind fun j => some (.int (j : Nat)) else none
  | _, _ => none
section
variable {X : Cx} {M : Mem} {e e2 : Expr} {f h : EF} {apos cpos : Pos}
theorem fe_count (hu : X.A.units + 65 < cLine) (he : FK X M e f) (hb : FK X M e2 h)
    (hbase : attributeBase e "count" X.env (eval e X.env) = eval e X.env := by rfl)
    (hfew : ((backTo cpos (starEach [e2] X.env)).all (fun x => !x.1) && (backToKw cpos (keywordEach [] X.env)).all (fun x => x.1.isSome)
      && decide (([e2] : List Expr).length + ([] : List Keyword).length + (if ([] : List Keyword).isEmpty then 0 else 1) < 30)) = true := by rfl)
    (hline : (apos.endLine == cpos.line) = true := by rfl) (hs : starEach [e2] X.env = (false, eval e2 X.env) :: starEach [] X.env := by rfl) (hplain : (backTo cpos (starEach [] X.env)).any (·.1) = false := by rfl) :
    FE X M (.Call (.Attribute e "count" apos) [e2] [] cpos) (c2 countD f h) :=
  PE.imp (pe_bm PySem.F.plainAttrs_list PySem.F.slot_list_count PySem.F.type_list_count mt_lcount he (fak_cons hb fak_nil hs) hbase hfew hline hs hplain) fun σ H Q q => by
    obtain ⟨H0, av0, av, ρ, d, c, ev, k⟩ := q
    obtain ⟨x, e1, ev⟩ := bind_some ev
    obtain ⟨y, e2, ev⟩ := bind_some ev
    refine ⟨H0, av0, av, ρ, x, c, e1, fun v H1 k1 b1 => ?_⟩
    unfold countD at ev
    split at ev
    · obtain ⟨ns, e3, ev⟩ := bind_some ev
      cases ev
      obtain ⟨a, vs, rfl, ha, r1⟩ := b1.list
      rw [ints_of e3] at r1
      have ee := r1.of_ints
      subst ee
      refine ⟨.inl ⟨rfl, _, SqL.of ha⟩, ?_⟩
      refine ⟨H0, av0, av, ρ, _, c.mono k1, (show cCons h cNil ρ = some [_] by unfold cCons cNil; rw [e2]; rfl), fun ws H2 k2 b2 => ?_⟩
      obtain ⟨w, rfl, bw⟩ := one_k b2
      rw [bw.int_]
      exact ⟨a, ns, _, rfl, rfl, SqL.of (k2.lst _ _ (fun z => z) ha), k _ _ (k1.trans k2) (.int _)⟩
    · cases ev
theorem fe_index (hu : X.A.units + 65 < cLine) (he : FK X M e f) (hb : FK X M e2 h)
    (hbase : attributeBase e "index" X.env (eval e X.env) = eval e X.env := by rfl)
    (hfew : ((backTo cpos (starEach [e2] X.env)).all (fun x => !x.1) && (backToKw cpos (keywordEach [] X.env)).all (fun x => x.1.isSome)
      && decide (([e2] : List Expr).length + ([] : List Keyword).length + (if ([] : List Keyword).isEmpty then 0 else 1) < 30)) = true := by rfl)
    (hline : (apos.endLine == cpos.line) = true := by rfl) (hs : starEach [e2] X.env = (false, eval e2 X.env) :: starEach [] X.env := by rfl) (hplain : (backTo cpos (starEach [] X.env)).any (·.1) = false := by rfl) :
    FE X M (.Call (.Attribute e "index" apos) [e2] [] cpos) (c2 indexD f h) :=
  PE.imp (pe_bm PySem.F.plainAttrs_list PySem.F.slot_list_index PySem.F.type_list_index (mt_indexD hu) he (fak_cons hb fak_nil hs) hbase hfew hline hs hplain) fun σ H Q q => by
    obtain ⟨H0, av0, av, ρ, d, c, ev, k⟩ := q
    obtain ⟨x, e1, ev⟩ := bind_some ev
    obtain ⟨y, e2, ev⟩ := bind_some ev
    refine ⟨H0, av0, av, ρ, x, c, e1, fun v H1 k1 b1 => ?_⟩
    unfold indexD at ev
    split at ev
    · split at ev
      · rename_i hsh
        obtain ⟨j, e3, ev⟩ := bind_some ev
        cases ev
        have bd := b1.dp (SeqAt.canLay_of_shaped hsh.1)
        obtain ⟨a, vs, rfl, ha, r1⟩ := b1.list
        refine ⟨.inl ⟨rfl, _, SqL.of ha⟩, ?_⟩
        refine ⟨H0, av0, av, ρ, _, c.mono k1, (show cCons h cNil ρ = some [_] by unfold cCons cNil; rw [e2]; rfl), fun ws H2 k2 b2 => ?_⟩
        obtain ⟨w, rfl, bw⟩ := one_k b2
        unfold idxOf at e3
        rw [List.findIdx?_eq_some_iff_getElem] at e3
        obtain ⟨hj, h1, h2⟩ := e3
        have bd2 := (b1.mono k2).dp (SeqAt.canLay_of_shaped hsh.1)
        refine ⟨a, w, _, _, j, _, rfl, rfl, bd2, bw.dp (SeqAt.canLay_of_shaped hsh.2), hsh.1, hsh.2, List.getElem?_eq_getElem hj, h1, fun m z' hm hz => ?_, k _ _ (k1.trans k2) (.int _)⟩
        obtain ⟨hm', hz⟩ := List.getElem?_eq_some_iff.mp hz
        have := h2 m hm
        rw [hz] at this
        simpa using this
      · cases ev
    · cases ev
end
end G

namespace G
open PySem PySem.Spec PyProof.Rows L2
/-! ## texts -/
def strsD : List D → Option (List Str)
  | [] => some []
  | .str x :: r => (strsD r).bind fun l => some (x :: l)
  | _ => none
theorem strs_of : ∀ {ds : List D} {ns : List Str}, strsD ds = some ns → ds = ns.map PyData.str := by
  intro ds
  induction ds with
  | nil => intro ns h; cases h; rfl
  | cons d r ih =>
    intro ns h
    cases d with
    | str x =>
      obtain ⟨m, e, h⟩ := bind_some h
      cases h
      rw [ih e]; rfl
    | _ => cases h
theorem strs_map : ∀ ns : List Str, strsD (ns.map PyData.str) = some ns
  | [] => rfl
  | n :: r => by
    show (strsD (r.map PyData.str)).bind _ = _
    rw [strs_map r]; rfl
section
variable {K : PySem.W.Frag} {M : Mem} {av : Av} {H : Hp}
theorem BrL.strs : ∀ (ns : List Str), BrL K M av H (ns.map V.str) (ns.map PyData.str)
  | [] => .nil
  | n :: r => .cons (.str n) (BrL.strs r)
theorem BrL.of_strs : ∀ {ns : List Str} {vs : List V}, BrL K M av H vs (ns.map PyData.str) → vs = ns.map V.str
  | [], _, .nil => rfl
  | n :: r, _, .cons a b => by
    cases a with
    | str i => rw [BrL.of_strs b]; rfl
end
def joinD : D → D → Option D
  | .str a, .list ds => (strsD ds).bind fun ys => if (ys.map (·.length)).sum + ys.length * a.length ≤ lim then some (.str (Txt.join a ys)) else none
  | _, _ => none
def splitD : D → D → Option D
  | .str a, .str b => if (b.length == 0) = false ∧ a.length + 2 ≤ lim then some (.list ((Txt.split a b).map .str)) else none
  | _, _ => none
theorem split_some {d e r : D} (h : splitD d e = some r) : ∃ a b, d = .str a ∧ e = .str b ∧ (b.length == 0) = false ∧ a.length + 2 ≤ lim ∧ r = .list ((Txt.split a b).map .str) := by
  unfold splitD at h
  split at h
  · split at h
    · rename_i hl
      cases h
      exact ⟨_, _, rfl, rfl, hl.1, hl.2, rfl⟩
    · cases h
  · cases h
/-- one sign in a text -/
def inSD (d e : D) : Option D := match d, e with
  | .str c, .str z => if h : c.cps.size = 1 then some (.bool (decide (c.cps[0] ∈ z.cps.toList))) else none
  | _, _ => none
def ninSD (d e : D) : Option D := match d, e with
  | .str c, .str z => if h : c.cps.size = 1 then some (.bool (!decide (c.cps[0] ∈ z.cps.toList))) else none
  | _, _ => none
def sindexD : D → D → Option D
  | .str a, .str b => match Builtin.Str.occurrences a b 0 a.length 1 with
    | i :: _ => some (.int (i : Nat))
    | [] => none
  | _, _ => none
def tmulD : D → D → Option D
  | .tuple xs, .int k => if xs ≠ [] ∧ 2 ≤ k ∧ k ≤ 1000 ∧ xs.length ≤ 1000 then some (.tuple (List.replicate k.toNat xs).flatten) else none
  | _, _ => none
theorem one_sign {c : Str} (h : c.cps.size = 1) : c = ⟨#[c.cps[0]]⟩ := by
  obtain ⟨a⟩ := c
  obtain ⟨l⟩ := a
  match l, h with
  | [x], _ => rfl
section
variable {X : Cx} {M : Mem} {e e2 : Expr} {f h : EF} {apos pos : Pos}
theorem fe_join (he : FK X M e f) (hb : FK X M e2 h) (hs : starEach [e2] X.env = [(false, eval e2 X.env)] := by rfl) (hbase : attributeBase e "join" X.env (eval e X.env) = eval e X.env := by rfl) (hline : (apos.endLine == pos.line) = true := by rfl) :
    FE X M (.Call (.Attribute e "join" apos) [e2] [] pos) (c2 joinD f h) := PE.imp (pe_join he hb hs hbase hline) fun σ H Q q => by
  obtain ⟨H0, av0, av, ρ, d, c, ev, k⟩ := q
  obtain ⟨x, e1, ev⟩ := bind_some ev
  obtain ⟨y, e2, ev⟩ := bind_some ev
  unfold joinD at ev
  split at ev
  · obtain ⟨ys, e3, ev⟩ := bind_some ev
    split at ev
    · rename_i hl
      cases ev
      refine ⟨H0, av0, av, ρ, _, c, e1, fun v H1 k1 b1 => ⟨⟨_, b1.str_⟩, ?_⟩⟩
      refine ⟨H0, av0, av, ρ, _, c.mono k1, e2, fun w H2 k2 b2 => ?_⟩
      obtain ⟨a, vs, rfl, ha, r1⟩ := b2.list
      rw [strs_of e3] at r1
      have ee := r1.of_strs
      subst ee
      rw [b1.str_]
      exact ⟨_, a, ys, rfl, rfl, .inl (SqL.of ha), hl, k _ _ (k1.trans k2) (.str _)⟩
    · cases ev
  · cases ev
theorem fe_split (hM : MemOk M) (he : FK X M e f) (hb : FK X M e2 h) (hs : starEach [e2] X.env = [(false, eval e2 X.env)] := by rfl) (hbase : attributeBase e "split" X.env (eval e X.env) = eval e X.env := by rfl) (hline : (apos.endLine == pos.line) = true := by rfl) :
    FE X M (.Call (.Attribute e "split" apos) [e2] [] pos) (c2 splitD f h) := PE.imp (pe_split he hb hs hbase hline) fun σ H Q q => by
  obtain ⟨H0, av0, av, ρ, d, c, ev, k⟩ := q
  obtain ⟨x, e1, ev⟩ := bind_some ev
  obtain ⟨y, e2, ev⟩ := bind_some ev
  obtain ⟨a, b, rfl, rfl, h0, h1, rfl⟩ := split_some ev
  refine ⟨H0, av0, av, ρ, _, c, e1, fun v H1 k1 b1 => ⟨⟨_, b1.str_⟩, ?_⟩⟩
  refine ⟨H0, av0, av, ρ, _, c.mono k1, e2, fun w H2 k2 b2 => ?_⟩
  rw [b1.str_, b2.str_]
  refine ⟨a, b, rfl, rfl, h0, lim_ok h1, fun p hp => ?_⟩
  have kn := Kp.new (o := HO.lst ((Txt.split a b).map V.str)) hM hp
  exact k _ _ ((k1.trans k2).trans kn) (.lst upd_same (fun z => (c.mono (k1.trans k2)).dom _ z hp) (BrL.strs _))
theorem o_inS : OpR X (compareOp .In) (r2 X.K M inSD) := by
  intro pins s σ H x y v u Q I rx ry hq
  obtain ⟨av, d, e, r, b1, b2, hd, g, k⟩ := hq
  unfold inSD at g
  split at g
  · split at g
    · rename_i c z hc
      cases g
      exact op_in_sign pins s σ H x y v u Q I rx ry ⟨_, _, by rw [b1.str_]; exact congrArg V.str (one_sign hc), b2.str_, k _ _ Kp.refl (.bl _)⟩
    · cases g
  · cases g
theorem o_ninS : OpR X (compareOp .NotIn) (r2 X.K M ninSD) := by
  intro pins s σ H x y v u Q I rx ry hq
  obtain ⟨av, d, e, r, b1, b2, hd, g, k⟩ := hq
  unfold ninSD at g
  split at g
  · split at g
    · rename_i c z hc
      cases g
      exact op_notIn_sign pins s σ H x y v u Q I rx ry ⟨_, _, by rw [b1.str_]; exact congrArg V.str (one_sign hc), b2.str_, k _ _ Kp.refl (.bl _)⟩
    · cases g
  · cases g
theorem o_tmul (hM : MemOk M) : OpR X (binaryOp .Mult) (r2 X.K M tmulD) := by
  intro pins s σ H x y v u Q I rx ry hq
  obtain ⟨av, d, e, r, b1, b2, hd, g, k⟩ := hq
  unfold tmulD at g
  split at g
  · split at g
    · rename_i xs kk hc
      cases g
      obtain ⟨a, vs, rfl, ha, r1⟩ := b1.tuple
      have hl := r1.length
      refine op_repT pins s σ H _ _ v u Q I rx ry ⟨a, kk, vs, rfl, b2.int_, SqT.of ha, fun z => hc.1 (List.length_eq_zero_iff.mp (by rw [← hl, z]; rfl)), hc.2.1, hc.2.2.1, by omega, fun p hp => ?_⟩
      have kn := Kp.new (o := HO.tup (List.replicate kk.toNat vs).flatten) hM hp
      exact k _ _ kn (.tup upd_same ((rep_br r1 _).mono kn.of))
    · cases g
  · cases g
theorem fe_sindex (he : FK X M e f) (hb : FK X M e2 h)
    (hbase : attributeBase e "index" X.env (eval e X.env) = eval e X.env := by rfl)
    (hfew : ((backTo pos (starEach [e2] X.env)).all (fun x => !x.1) && (backToKw pos (keywordEach [] X.env)).all (fun x => x.1.isSome)
      && decide (([e2] : List Expr).length + ([] : List Keyword).length + (if ([] : List Keyword).isEmpty then 0 else 1) < 30)) = true := by rfl)
    (hline : (apos.endLine == pos.line) = true := by rfl) (hs : starEach [e2] X.env = (false, eval e2 X.env) :: starEach [] X.env := by rfl) (hplain : (backTo pos (starEach [] X.env)).any (·.1) = false := by rfl) :
    FE X M (.Call (.Attribute e "index" apos) [e2] [] pos) (c2 sindexD f h) :=
  PE.imp (pe_bm PySem.F.plainAttrs_str PySem.F.slot_str_index PySem.F.type_str_index mt_sindex he (fak_cons hb fak_nil hs) hbase hfew hline hs hplain) fun σ H Q q => by
    obtain ⟨H0, av0, av, ρ, d, c, ev, k⟩ := q
    obtain ⟨x, e1, ev⟩ := bind_some ev
    obtain ⟨y, e2, ev⟩ := bind_some ev
    refine ⟨H0, av0, av, ρ, x, c, e1, fun v H1 k1 b1 => ?_⟩
    unfold sindexD at ev
    split at ev
    · split at ev
      · rename_i i rest ho
        cases ev
        have ex := b1.str_
        subst ex
        refine ⟨rfl, ?_⟩
        refine ⟨H0, av0, av, ρ, _, c.mono k1, (show cCons h cNil ρ = some [_] by unfold cCons cNil; rw [e2]; rfl), fun ws H2 k2 b2 => ?_⟩
        obtain ⟨w, rfl, bw⟩ := one_k b2
        rw [bw.str_]
        exact ⟨_, _, i, rest, rfl, rfl, ho, k _ _ (k1.trans k2) (.int _)⟩
      · cases ev
    · cases ev
end
end G

namespace G
open PySem PySem.Spec PyProof.Rows L2
/-! ## what raises -/
/-- which class: by a Bool -/
abbrev EL := Bool → Value
abbrev RF := Ev → Option Bool
section
variable (K : PySem.W.Frag) (M : Mem) (ecl : EL)
def spR (n : Nat) (R : List D → Option Bool) : Sp := fun vs H _ E => ∃ av ds b, vs.length = n ∧ BrL K M av H vs ds ∧ (∀ a, av a → H a ≠ none) ∧ R ds = some b ∧ ∀ H', Kp M noA H H' → E (ecl b) none H'
def tR (W : WX) (r : RF) : TE := fun σ H _ => ∃ H0 av0 av ρ b, Cor K M H0 av0 av H σ ρ ∧ r ρ = some b ∧ ∀ H', Kp M noA H H' → W (ecl b) none σ H'
def tRA (W : WX) (r : RF) : TA := fun σ H _ => ∃ H0 av0 av ρ b, Cor K M H0 av0 av H σ ρ ∧ r ρ = some b ∧ ∀ H', Kp M noA H H' → W (ecl b) none σ H'
def tRS (W : WX) (r : RF) : TS := fun _ σ H => ∃ H0 av0 av ρ b, Cor K M H0 av0 av H σ ρ ∧ r ρ = some b ∧ ∀ σ' H', Kp M noA H0 H' → W (ecl b) none σ' H'
end
abbrev RE (X : Cx) (M : Mem) (ecl : EL) (W : WX) (e : Expr) (r : RF) : Prop := PE X e (tR X.K M ecl W r)
abbrev RA (X : Cx) (M : Mem) (ecl : EL) (W : WX) (e : List Expr) (r : RF) : Prop := PA X e (tRA X.K M ecl W r)
abbrev RS (X : Cx) (M : Mem) (ecl : EL) (W : WX) (e : Stmt) (r : RF) : Prop := PS X e (tRS X.K M ecl W r)
abbrev RSs (X : Cx) (M : Mem) (ecl : EL) (W : WX) (e : List Stmt) (r : RF) : Prop := PSs X e (tRS X.K M ecl W r)
/-- a def stands in the module, and raises as R of its n arguments says -/
structure CalR (P : Program) (w : World) (K : PySem.W.Frag) (mg : Str → Option Value) (base : Heap) (M : Mem) (ecl : EL) (x : Str) (k n : Nat) (R : List D → Option Bool) : Prop where
  ex : ∃ f fd ps, mg x = some (.ref f) ∧ PySem.W.keepIn K (.ref f) = true ∧ Binds K fd ps [] ∧ FnOk P w K mg base (L2.CX P w) k f fd ps (spR K M ecl n R)
/-- behind a statement that ends well -/
def rNx (F : SF) (R : RF) : RF := fun ρ => match F ρ with
  | some (.nx ρ') => R ρ'
  | _ => none
def rIf (t : BF) (R1 R2 : RF) : RF := fun ρ => (t ρ).bind fun b => if b = true then R1 ρ else R2 ρ
def rCall (Rf : List D → Option Bool) (ra : LF) : RF := fun ρ => (ra ρ).bind Rf
def rOp (f : EF) (R : RF) : RF := fun ρ => (f ρ).bind fun _ => R ρ
def rNo : RF := fun _ => none
def rIt (b : Bool) : RF := fun _ => some b
/-- a loop that raises in the end -/
def rForL (g : GF) (B : SF) (R : RF) : List D → RF
  | [] => fun _ => none
  | d :: ds => fun ρ => (g d ρ).bind fun ρ1 => match R ρ1 with
    | some b => some b
    | none => match B ρ1 with
      | some (.nx ρ') => rForL g B R ds ρ'
      | some (.ct ρ') => rForL g B R ds ρ'
      | _ => none
def rFor (it : LF) (g : GF) (B : SF) (R : RF) : RF := fun ρ => (it ρ).bind fun ds => rForL g B R ds ρ
section
variable {X : Cx} {M : Mem} {ecl : EL} {W : WX} {a b e : Expr} {f h : EF} {F G' : SF} {pos : Pos} {st : Stmt} {rest : List Stmt} {R R' r : RF}
/-- either reading -/
theorem PE.or {t u : TE} (h1 : PE X e t) (h2 : PE X e u) : PE X e (fun σ H Q => t σ H Q ∨ u σ H Q) := ⟨fun pins s σ H Q I q => q.elim (h1.run pins s σ H Q I) (h2.run pins s σ H Q I)⟩
theorem PSs.or {ss : List Stmt} {t u : TS} (h1 : PSs X ss t) (h2 : PSs X ss u) : PSs X ss (fun D σ H => t D σ H ∨ u D σ H) := ⟨fun pins s σ H D I q => q.elim (h1.run pins s σ H D I) (h2.run pins s σ H D I)⟩
theorem pss_never : PSs X rest (fun _ _ _ => False) := ⟨fun _ _ _ _ _ _ q => q.elim⟩
theorem rs_no : RS X M ecl W st rNo := ⟨fun _ _ _ _ _ _ q => by obtain ⟨H0, av0, av, ρ, b, c, e, k⟩ := q; cases e⟩
theorem rss_no : RSs X M ecl W rest rNo := ⟨fun _ _ _ _ _ _ q => by obtain ⟨H0, av0, av, ρ, b, c, e, k⟩ := q; cases e⟩
/-- the first statement raises -/
theorem rss_hd (h1 : RS X M ecl W st R) : RSs X M ecl W (st :: rest) R := PSs.imp (pss_cons h1 pss_never) fun Dn σ H q => q
theorem rss_tl (h1 : FS X M st F) (h2 : RSs X M ecl W rest R) : RSs X M ecl W (st :: rest) (rNx F R) := PSs.imp (pss_cons h1 h2) fun Dn σ H q => by
  obtain ⟨H0, av0, av, ρ, b, c, e, k⟩ := q
  unfold rNx at e
  split at e
  · rename_i ρ' e1
    exact ⟨H0, av0, av, ρ, .nx ρ', c, e1, fun av' σ' H' k1 s1 c1 => ⟨H0, av0, av', ρ', b, c1, e, k⟩⟩
  · cases e
theorem rs_if {c : Expr} {t : BF} {as bs : List Stmt} (hc : FT X M c t) (ha : RSs X M ecl W as R) (hb : RSs X M ecl W bs R') : RS X M ecl W (.If c as bs pos) (rIf t R R') := PS.imp (ps_if hc ha hb) fun Dn σ H q => by
  obtain ⟨H0, av0, av, ρ, o, c, e, k⟩ := q
  obtain ⟨x, e1, e⟩ := bind_some e
  refine ⟨H0, av0, av, ρ, x, c, e1, fun H1 k1 => ?_⟩
  cases x with
  | true => exact ⟨H0, av0, av, ρ, o, c.mono k1, e, k⟩
  | false => exact ⟨H0, av0, av, ρ, o, c.mono k1, e, k⟩
/-- what is wished of σ, wherever it stands -/
def Flat (W : WX) : Prop := ∀ c d σ σ' H, W c d σ H → W c d σ' H
theorem tR_of (hW : Flat W) {σ : L2.St} {H : Hp} {Q : VK} {D : Ends} (q : tRS X.K M ecl W R D σ H) : tR X.K M ecl W R σ H Q := by
  obtain ⟨H0, av0, av, ρ, b, c, e, k⟩ := q
  exact ⟨H0, av0, av, ρ, b, c, e, fun H' k1 => k σ H' (c.kp.trans k1)⟩
theorem rs_ret (hW : Flat W) (he : RE X M ecl W e R) : RS X M ecl W (.Return (some e) pos) R := PS.imp (ps_ret he) fun Dn σ H q => tR_of hW q
theorem rs_asg {tg : Stmt} {g : TG} (hW : Flat W) (h : PS X tg (tAsg (tR X.K M ecl W R) g)) : RS X M ecl W tg R := PS.imp h fun Dn σ H q => tR_of hW q
theorem rs_asgT {tg : Expr} {g : GF} {vs : List Nat} (hW : Flat W) (he : RE X M ecl W e R) (hg : FG X M tg g vs) (hs : swapsWithSole [tg] e pos.line X.env = pure false := by rfl) (hw : swappedStores [tg] e X.env = pure none := by rfl)
    (h1 : (assignEach [tg] X.env).map (·.2) = [assign tg X.env] := by rfl) : RS X M ecl W (.Assign [tg] e pos) R := rs_asg hW (ps_asg he hg hs hw h1)
/-- a class of one's own over ValueError, without __init__ -/
structure ExC (K : PySem.W.Frag) (mg : Str → Option Value) (x : Str) (C : Addr) : Prop where
  g : mg x = some (.ref C)
  i : PySem.W.excIn K C [.type "ValueError", .type "Exception", .type "BaseException", .type "object"] "ValueError.__new__" = true
  k : PySem.W.keepIn K (.ref C) = true
  s : PySem.W.subIn K (.ref C) (.type "BaseException") = some true
  t : PySem.W.typeIn K (.ref C) = some (.type "type")
theorem rs_raise {x m : Str} {j : Nat} {C : Addr} {v : Bool} {p p2 p3 : Pos} (hc : X.calm = true) (tk : Takes X W) (hW : Flat W) (E : ExC X.K X.mg x C) (hg : Gl X x) (hv : ecl v = .ref C) (hdb : (x == ("__debug__" : Str)) = false := by decide) :
    RS X M ecl W (.Raise (some (.Call (.Name x p) [.Constant (.str m) j p2] [] p3)) none pos) (rIt v) :=
  PS.imp (ps_raise hc tk (pmk_own PySem.F.excBase_ValueError E.i E.g E.k (raises_own E.s E.t) hg hdb)) fun Dn σ H q => by
    obtain ⟨H0, av0, av, ρ, b, c, e, k⟩ := q
    cases e
    show W (.ref C) none σ H
    rw [← hv]
    exact k σ H c.kp
/-- a call that raises -/
theorem re_cal {k n j : Nat} {Rf : List D → Option Bool} {x : Str} {p : Pos} {es : List Expr} {ra : LF} (C : CalR X.prog X.w X.K X.mg X.base M ecl x k n Rf) (hr : Room j X.A) (hk : k ≤ j) (hg : Gl X x) (tk : Takes X W)
    (ha : FA X M (e :: es) ra) (hn : (e :: es).length = n := by rfl) (hdb : (x == ("__debug__" : Str)) = false := by decide) (he : starEach (e :: es) X.env = (false, eval e X.env) :: starEach es X.env := by rfl) (hpl : (backTo pos (starEach es X.env)).any (·.1) = false := by rfl) :
    RE X M ecl W (.Call (.Name x p) (e :: es) [] pos) (rCall Rf (cArgs n ra)) := by
  obtain ⟨f, fd, ps, h1, h2, h3, h4⟩ := C.ex
  refine PE.imp (pe_callS (E := WE W) h4 (hr.mono hk) hg h1 h2 h3 (fun σ => passAt tk σ) ha hdb he hpl) fun σ H Q q => ?_
  obtain ⟨H0, av0, av, ρ, b, c, e, post⟩ := q
  obtain ⟨ds, e1, e⟩ := bind_some e
  obtain ⟨ds', e2, e1⟩ := bind_some e1
  split at e1
  · rename_i hl
    cases e1
    refine ⟨H0, av0, av, ρ, ds, c, e2, fun vs H1 k1 b1 => ?_⟩
    exact ⟨av, ds, b, by rw [b1.length]; exact hl, b1, (c.mono k1).dom, e, fun H' k' => post H' (k1.trans k')⟩
  · cases e1
/-- a op b, b raising -/
theorem re_op {op : Operator} {g : R2} (ho : OpR X (binaryOp op) g) (ha : FK X M a f) (hb : RE X M ecl W b R) : RE X M ecl W (.BinOp a op b pos) (rOp f R) :=
  PE.imp (pe_op ho ha hb) fun σ H Q q => by
    obtain ⟨H0, av0, av, ρ, v, c, e, post⟩ := q
    obtain ⟨x, e1, e⟩ := bind_some e
    refine ⟨H0, av0, av, ρ, x, c, e1, fun v1 H1 k1 b1 => ?_⟩
    exact ⟨H0, av0, av, ρ, v, c.mono k1, e, fun H' k' => post H' (k1.trans k')⟩
/-- args of which the first raises -/
theorem ra_hd {es : List Expr} (ha : RE X M ecl W e R) (hr : PA X es (fun _ _ _ => False)) (hs : starEach (e :: es) X.env = (false, eval e X.env) :: starEach es X.env := by rfl) : RA X M ecl W (e :: es) R := PA.imp (pa_cons ha hr hs) fun σ H Q q => by
  obtain ⟨H0, av0, av, ρ, v, c, e, post⟩ := q
  exact ⟨H0, av0, av, ρ, v, c, e, post⟩
theorem ra_tl {es : List Expr} (ha : FE X M e f) (hr : RA X M ecl W es R) (hs : starEach (e :: es) X.env = (false, eval e X.env) :: starEach es X.env := by rfl) : RA X M ecl W (e :: es) (fun ρ => (f ρ).bind fun _ => R ρ) := PA.imp (pa_cons ha hr hs) fun σ H Q q => by
  obtain ⟨H0, av0, av, ρ, v, c, e, post⟩ := q
  obtain ⟨x, e1, e⟩ := bind_some e
  exact ⟨H0, av0, av, ρ, x, c, e1, fun v1 H1 k1 b1 => ⟨H0, av0, av, ρ, v, c.mono k1, e, fun H' k' => post H' (k1.trans k')⟩⟩
/-- either the first raises, or it ends well and the rest raises -/
def rCons (R1 : RF) (F : SF) (R2 : RF) : RF := fun ρ => match R1 ρ with
  | some b => some b
  | none => rNx F R2 ρ
theorem rss_cons (h1 : RS X M ecl W st R) (h1' : FS X M st F) (h2 : RSs X M ecl W rest R') : RSs X M ecl W (st :: rest) (rCons R F R') := PSs.imp (PSs.or (rss_hd (rest := rest) h1) (rss_tl h1' h2)) fun Dn σ H q => by
  obtain ⟨H0, av0, av, ρ, b, c, e, k⟩ := q
  unfold rCons at e
  split at e
  · rename_i b' e1
    cases e
    exact .inl ⟨H0, av0, av, ρ, b, c, e1, k⟩
  · exact .inr ⟨H0, av0, av, ρ, b, c, e, k⟩
theorem rss_frz (i : Nat) {ss : List Stmt} (h : RSs X M ecl W ss R) : RSs X M ecl W ss (rNx (cFrz i) R) := PSs.imp h fun Dn σ H q => by
  obtain ⟨H0, av0, av, ρ, b, c, e, k⟩ := q
  unfold rNx at e
  split at e
  · rename_i ρ' e1
    unfold cFrz at e1
    split at e1
    · rename_i ds h1
      cases e1
      obtain ⟨av', s, c'⟩ := c.frz h1
      exact ⟨H0, av0, av', _, b, c', e, k⟩
    · cases e1
  · cases e
/-- a loop whose body raises in the end -/
theorem rs_for {tg iter : Expr} {body : List Stmt} {it : LF} {g : GF} {vs : List Nat} {B : SF} (hp : PassesOwn (model X.prog X.w) X.A X.env X.xe) (hc : X.calm = true) (hW : Flat W) (hi : FI X M tg iter it) (hg : FG X M tg g vs) (hb : FSs X M body B) (hb2 : RSs X M ecl W body R)
    (hs : ∀ x, foldedSetIterable iter X.env x = pure x := by intro _; rfl) : RS X M ecl W (.For tg iter body [] pos) (rFor it g B R) := PS.imp (ps_for hp hc hi hg (PSs.or hb hb2) hs) fun Dn σ H q => by
  obtain ⟨H0, av0, av, ρ, v, c, e, post⟩ := q
  obtain ⟨ds, e1, e⟩ := bind_some e
  refine ⟨H0, av0, av, ρ, ds, c, e1, fun J H1 k1 wk => ?_⟩
  refine ⟨fun i m σ' H' => m = ds.length - i ∧ i ≤ ds.length ∧ ∃ av' ρ', Kp M av H1 H' ∧ (∀ a, av' a → av a ∨ H1 a = none) ∧ Cor X.K M H0 av0 av' H' σ' ρ' ∧ rForL g B R (ds.drop i) ρ' = some v, ⟨ds.length, by simp, Nat.zero_le _, av, ρ, Kp.refl, sub_refl, c.mono k1, by simpa using e⟩, ?_⟩
  rintro i m σ' H' ⟨rfl, hi, av', ρ', k2, s2, c2, e2⟩
  have w := wk i av' H' s2 c2.dom k2
  cases g1 : ds[i]? with
  | none =>
    have : ds.drop i = [] := List.drop_eq_nil_of_le (List.getElem?_eq_none_iff.mp g1)
    rw [this] at e2
    cases e2
  | some d =>
    obtain ⟨hlt, hd⟩ := List.getElem?_eq_some_iff.mp g1
    have hdr : ds.drop i = d :: ds.drop (i + 1) := by rw [List.drop_eq_getElem_cons hlt, hd]
    rw [hdr] at e2
    obtain ⟨ρ1, e3, e2⟩ := bind_some e2
    refine .inr ⟨(w.1 d g1).1, fun σ'' H'' => ∃ m', m' < ds.length - i ∧ m' = ds.length - (i + 1) ∧ i + 1 ≤ ds.length ∧ ∃ av' ρ', Kp M av H1 H'' ∧ (∀ a, av' a → av a ∨ H1 a = none) ∧ Cor X.K M H0 av0 av' H'' σ'' ρ' ∧ rForL g B R (ds.drop (i + 1)) ρ' = some v, fun σ'' H'' ⟨m', h1, h2⟩ => ⟨m', h1, h2⟩, fun x H3 y => ?_⟩
    obtain ⟨k3, b3⟩ := (w.1 d g1).2 x H3 y
    refine ⟨H0, av0, av', ρ', d, ρ1, c2.mono k3, b3, e3, fun σ4 _ c4 => ?_⟩
    have again : ∀ ρ2 : Ev, rForL g B R (ds.drop (i + 1)) ρ2 = some v → Aft X.K M H0 av0 av' H3 ρ2 (fun σ'' H'' => ∃ m', m' < ds.length - i ∧ m' = ds.length - (i + 1) ∧ i + 1 ≤ ds.length ∧ ∃ av' ρ', Kp M av H1 H'' ∧ (∀ a, av' a → av a ∨ H1 a = none) ∧ Cor X.K M H0 av0 av' H'' σ'' ρ' ∧ rForL g B R (ds.drop (i + 1)) ρ' = some v) :=
      fun ρ2 e5 av5 σ5 H5 k5 s5 c5 => ⟨_, by omega, rfl, hlt, av5, ρ2, (k2.trans k3.of).step (fun a z => s2 a z) k5, sub_step (k2.trans k3.of) s2 s5, c5, e5⟩
    split at e2
    · rename_i b' e6
      cases e2
      exact .inr ⟨H0, av0, av', ρ1, v, c4, e6, post⟩
    · split at e2
      · rename_i ρ2 e7
        exact .inl ⟨H0, av0, av', ρ1, .nx ρ2, c4, e7, again ρ2 e2⟩
      · rename_i ρ2 e7
        exact .inl ⟨H0, av0, av', ρ1, .ct ρ2, c4, e7, again ρ2 e2⟩
      · cases e2
end
/-- a def that raises -/
theorem funR {P : Program} {w : World} {K : PySem.W.Frag} {M : Mem} {ecl : EL} {mg : Str → Option Value} {base : Heap} {x qual : Str} {st : Stmt} {f : Addr} {fd : FuncData} {N ps : List Str} {k : Nat} {R : RF} (F : Fun K x qual st f fd) (S : FnScope N ps (defScope st))
    (hbody : ∀ (cdv : Value) (A : Around) (outer : List Env) (s : Shared) (H : Hp) (E : XK), Room k (A.deeper (envOfC qual (defScope st) s.heap.objs.size f cdv)) →
      RSs (cxOf (L2.CX P w) P w K mg base N qual (defScope st) f cdv A outer s H E) M ecl (fun c d _ H => E c d H) (defBody st) R) :
    FnOk P w K mg base (L2.CX P w) (k + 1) f fd ps (spR K M ecl ps.length (fun ds => R (startE N.length ds))) := by
  refine F.okX S (fun vs H Q E h => ?_) (fun cdv A outer s H vs Q E hr h => ?_)
  · obtain ⟨_, _, _, h, _⟩ := h; exact h
  · obtain ⟨av, ds, b, hl, bl, hd, e, q⟩ := h
    exact ⟨_, hbody cdv A outer s H E hr, H, av, av, _, b, start_cor bl hd, e, fun σ' H' k1 => q H' k1⟩
theorem calR_of {P : Program} {w : World} {K : PySem.W.Frag} {M : Mem} {ecl : EL} {mg : Str → Option Value} {base : Heap} {x qual : Str} {st : Stmt} {f : Addr} {fd : FuncData} {ps : List Str} {k n : Nat} {R : List D → Option Bool} (Fn : Fun K x qual st f fd) (g : mg x = some (.ref f)) (b : Binds K fd ps []) (ok : FnOk P w K mg base (L2.CX P w) k f fd ps (spR K M ecl n R)) : CalR P w K mg base M ecl x k n R :=
  ⟨f, fd, ps, g, Fn.kp, b, ok⟩
theorem flatE {E : XK} : Flat (fun c d _ H => E c d H) := fun _ _ _ _ _ h => h
end G

namespace G
open PySem PySem.Spec PyProof.Rows L2 LamX
/-! ## count of truths -/
def eqb (k : Bool) (v : Value) : Bool := match v with
  | .bool b => b == k
  | _ => false
theorem bls_vals : ∀ {bs : List Bool} {us : List Value}, Vals (bs.map V.bl) us → us = bs.map Value.bool
  | [], _, .nil => rfl
  | b :: bs, _, .cons r t => by
    obtain rfl := r
    rw [bls_vals t]; rfl
def rCntB (K : PySem.W.Frag) : V → List V → Hp → VK → Prop := fun x xs H Q => ∃ (p : Addr) (ns : List Bool) (k : Bool), x = .ref p ∧ xs = [.bl k] ∧ SqL K H p (ns.map V.bl) ∧ Q (.int (ns.count k : Nat)) H
theorem mt_lcountB {X : Cx} : MtR X "list.count" (rCntB X.K) := by
  intro pins s σ H x xs v us Q I rx rxs h
  obtain ⟨p, ns, k, rfl, rfl, hs, q⟩ := h
  cases rx
  obtain ⟨u, rfl, ru⟩ := rxs.one
  obtain rfl : u = Value.bool k := ru
  obtain ⟨its, rv, ⟨⟨cls, dd, data, sl⟩, n, ho, hc, hdn, hd⟩, hlen⟩ := I.list hs
  simp only at hc hd
  subst hc hd
  have hi := bls_vals rv
  subst hi
  refine call_meets PySem.F.slot_list_count ⟨_, ho, rfl⟩ PySem.F.entry_list_count (PySem.F.args_list_count_2 _ _)
    (SeqAt.list_countAt p (ns.map Value.bool).toArray n dd sl (.bool k) (eqb k)) ⟨ho, fun y hy => ?_, ?_⟩
  · have hy' : y ∈ ns.map Value.bool := by simpa using hy
    obtain ⟨b, _, rfl⟩ := List.mem_map.mp hy'
    exact SeqAt.EqAt.bool_bool b k
  have ec : (ns.map Value.bool).toArray.toList.countP (eqb k) = ns.count k := by
    show (ns.map Value.bool).countP (eqb k) = ns.count k
    rw [List.countP_map, List.count]; rfl
  refine ⟨.int (ns.count k : Nat), H, I.tok _, ⟨s.toks, ?_⟩, q⟩
  show Value.int (((ns.map Value.bool).toArray.toList.countP (eqb k) : Nat) : Int) s.toks = Value.int ((ns.count k : Nat) : Int) s.toks
  rw [ec]
/-! ## a lambda, and what is known of the heap behind it -/
section
variable {X : Cx} {pins : List (Addr × Obj)} {σ : L2.St} {H : Hp} {s : Shared}
/-- the lambda is made; nothing that was known is lost -/
theorem lam_make3 {T : List (Addr × Str)} {c P : Addr} {params : Arguments} {body : Expr} {scope : Scope} {pos : Pos} {E : Value → Shared → Prop} {Q : Value → Shared → Prop} (I : Inv X pins σ H s) (TB : TabB X.base X.mg c P) (hcode : X.env.code = .ref c)
    (hm : (P, X.env.qual ++ "<lambda>") ∈ T) (hu : ∀ p ∈ T, p.1 = P → p.2 = X.env.qual ++ "<lambda>") (hT : Tabs T H) (hdef : defaultsOf params X.env = ([], [])) (hfree : ∀ y ∈ scope.names, y.2 = .free → ∃ c, X.env.cells.lookup y.1 = some c)
    (h : ∀ (f c' : Addr) (pm ctv : Value) (H1 : Hp) (s' : Shared), Inv X pins σ H1 s' → ExtN H H1 → (∀ b, H1 b = none → H b = none) → Tabs T H1 →
      s'.heap.get? f = some (PySem.W.kla_obj "<lambda>" (X.env.qual ++ "<lambda>") params body scope (cloFrom X.env.cells scope.names []) pm c' ctv) → H1 f = none → f ∉ frs X.stack → H1 c' = some (CodeO c' (X.env.qual ++ "<lambda>")) → Q (.ref f) s') :
    wpAny (model X.prog X.w) X.A (eval (.Lambda params body scope pos) X.env) Q E s := by
  obtain ⟨ps, hP, ht, ha⟩ := hT _ hm
  have bP : s.heap.BuiltinsAt X.mg P := TB.bm.keeps I.bk
  have hP' : s.heap.get? P = some { cls := .none, data := .fields ps } := I.hok P _ hP
  have far : ∀ f, s.heap.objs.size ≤ f → f ∉ frs X.stack := fun f hf z => by
    rcases List.mem_cons.mp (I.stkSub _ z) with e | e
    · have h1 := I.lt
      rw [← e] at h1
      exact Nat.lt_irrefl _ (Nat.lt_of_lt_of_le h1 hf)
    · exact I.nofs hf e
  refine PySem.W.kla_eval hdef ?_
  cases hc : codeAmong pos ps.toList with
  | some cv =>
    obtain ⟨c', rfl, hco⟩ := ha pos cv hc
    refine PySem.W.kla_makeFunctionHit (mg := X.mg) (c := c) (P := P) (ps := ps) (closure_ok hfree) I.ok.glob (I.mod.glob.keeps I.bk) hcode (TB.code.keeps I.bk) hP' ht hc bP fun ctv h' tk hx hsz => ?_
    exact h h'.objs.size c' ((X.mg "__name__").getD .none) ctv H _ (I.kept fun b o e => Heap.get?_push_of_some _ (hx b o e)) (ExtN.refl H) (fun _ e => e) hT (Heap.get?_push_size _ rfl) (I.hok.fresh hsz) (far _ hsz) hco
  | none =>
    refine PySem.W.kla_makeFunction (mg := X.mg) (c := c) (P := P) (ps := ps) (closure_ok hfree) I.ok.glob (I.mod.glob.keeps I.bk) hcode (TB.code.keeps I.bk) hP' ht hc TB.gP bP fun c' ctv h' tk hx hge hlt hrec htb => ?_
    obtain ⟨c2, oc, vs, t, e2, hoc, hd, hv⟩ := hrec
    cases e2
    have hsz : s.heap.objs.size ≤ h'.objs.size := Nat.le_trans hge (Nat.le_of_lt hlt)
    have nC : H c' = none := I.hok.fresh hge
    have I1 := inv_table (t' := tk) (more := #[rawInt pos.line, rawInt pos.col, .ref c']) (h' := h'.push (PySem.W.kla_obj "<lambda>" (X.env.qual ++ "<lambda>") params body scope (cloFrom X.env.cells scope.names []) ((X.mg "__name__").getD .none) c' ctv)) I hP
      (fun b o hb e => Heap.get?_push_of_some _ (hx b o hb e)) (Heap.get?_push_of_some _ htb) hge ⟨oc, vs, t, Heap.get?_push_of_some _ hoc, hd, hv⟩
    obtain ⟨H1, eH1⟩ : ∃ H1, H1 = upd (upd H P (.tbl (ps ++ #[rawInt pos.line, rawInt pos.col, .ref c']))) c' (CodeO c' (X.env.qual ++ "<lambda>")) := ⟨_, rfl⟩
    have atC : H1 c' = some (CodeO c' (X.env.qual ++ "<lambda>")) := by rw [eH1, upd_same]
    have atP : H1 P = some (.tbl (ps ++ #[rawInt pos.line, rawInt pos.col, .ref c'])) := by rw [eH1, upd_ne (ne_of_none hP nC), upd_same]
    have els : ∀ b, b ≠ c' → b ≠ P → H1 b = H b := fun b h1 h2 => by rw [eH1, upd_ne h1, upd_ne h2]
    rw [← eH1] at I1
    have hE : ExtN H H1 := fun b o e n => by
      rw [els b (ne_of_none e nC) (fun z => n ps (Option.some.inj (e.symm.trans (by rw [z]; exact hP))))]
      exact e
    have dm : ∀ b, H1 b = none → H b = none := fun b e => by
      by_cases z1 : b = c'
      · rw [z1]; exact nC
      · by_cases z2 : b = P
        · rw [z2, atP] at e; cases e
        · rw [← els b z1 z2]; exact e
    have eL : (ps ++ #[rawInt pos.line, rawInt pos.col, .ref c']).toList = ps.toList ++ [rawInt pos.line, rawInt pos.col, .ref c'] := by simp
    refine h h'.objs.size c' ((X.mg "__name__").getD .none) ctv _ _ I1 hE dm (fun p hp => ?_) (Heap.get?_push_size _ rfl) ?_ (far _ hsz) atC
    · by_cases hb : p.1 = P
      · rw [hu p hp hb, hb]
        refine ⟨_, atP, by rw [eL]; exact PySem.TriplesOk_snoc _ _ _ _ ht, fun p' cv hcv => ?_⟩
        rw [eL] at hcv
        rcases among_app _ ht hcv with z | z
        · obtain ⟨c0, e1, e2⟩ := ha p' cv z
          exact ⟨c0, e1, hE _ _ e2 codeO_ne⟩
        · exact ⟨c', z, atC⟩
      · obtain ⟨ps', a1, a2, a3⟩ := hT p hp
        refine ⟨ps', by rw [els _ (ne_of_none a1 nC) hb]; exact a1, a2, fun p' cv hcv => ?_⟩
        obtain ⟨c0, e1, e2⟩ := a3 p' cv hcv
        exact ⟨c0, e1, hE _ _ e2 codeO_ne⟩
    · have n1 : h'.objs.size ≠ c' := Nat.ne_of_gt hlt
      have n2 : h'.objs.size ≠ P := Nat.ne_of_gt (Nat.lt_of_lt_of_le (Heap.lt_size hP') hsz)
      rw [els _ n1 n2]
      exact I.hok.fresh hsz
end
def tLam3 (T : List (Addr × Str)) (TT : (XK → Hp → VK → Prop) → Hp → VK → Prop) (t : XK → TE) : TE := fun σ H Q => Tabs T H ∧ ∀ H1, ExtN H H1 → (∀ b, H1 b = none → H b = none) → Tabs T H1 → TT (fun E H' Q' => t E σ H' Q') H1 Q
/-- x(lambda: body) -/
theorem pe_lamcall3 {X : Cx} {T : List (Addr × Str)} {TT : (XK → Hp → VK → Prop) → Hp → VK → Prop} {x a : Str} {g c P : Addr} {k : Nat} {pg : Arguments} {bg : List Stmt} {sg : Scope} {dV kV doc pm cdv ct oc : Value} {an od : Option Addr} {osl : Array (Option Value)} {Ng : List Str}
    {params : Arguments} {body : Expr} {scope : Scope} {t : XK → TE} {p lpos pos : Pos} (hg : Gl X x) (hm : X.mg x = some (.ref g)) (hk : PySem.W.keepIn X.K (.ref g) = true)
    (lk : X.K.lookup g = some ⟨oc, od, .func (PySem.W.fnOf x x pg bg sg dV kV doc pm an cdv ct), osl⟩) (hcg : PySem.W.codeIn X.K cdv x = true) (hb : L2.Binds X.K (PySem.W.fnOf x x pg bg sg dV kV doc pm an cdv ct) [a] []) (Sg : FnScope Ng [a] sg) (hNg : Ng[0]? = some a) (hva : Vis sg a)
    (hG : GivesTo X Ng x sg g cdv bg a (X.env.qual ++ "<lambda>") TT)
    (TB : TabB X.base X.mg c P) (hcode : X.env.code = .ref c) (hmT : (P, X.env.qual ++ "<lambda>") ∈ T) (hu : ∀ p ∈ T, p.1 = P → p.2 = X.env.qual ++ "<lambda>") (hr : Room (k + 2) X.A) (L : LamS X.env.scope scope) (hdef : defaultsOf params X.env = ([], []))
    (hbind : ∀ (q : Str) (cl : List (Str × Addr)) (pm cv ctv : Value), bindArgs (PySem.W.kla_fn "<lambda>" q params body scope cl pm cv ctv) ⟨[], []⟩ = pure [])
    (hbody : ∀ (A : Around) (outer : List Env) (s : Shared) (H : Hp) (E : XK) (f c' : Addr), Room k (A.deeper (lamEnv X scope s.heap.objs.size f c')) → PE (lamCx X A outer s H E scope f c') body (t E))
    (hdb : (x == ("__debug__" : Str)) = false := by decide) (hd : (a == ("__debug__" : Str)) = false := by decide) (hcd : (a == ("__classdict__" : Str)) = false := by decide) :
    PE X (.Call (.Name x p) [.Lambda params body scope lpos] [] pos) (tLam3 T TT t) := by
  refine ⟨fun pins s σ H Q I ⟨hT, h⟩ => ?_⟩
  refine wpAny_Call_Name_kw (ld_glob I hg hm ?_ hdb)
  refine PySem.W.callWith_K (h₀ := X.base) I.ok.mod.kin hk ?_ (by rfl) (by rfl)
  show wpAny _ _ (spliced ((false, eval (.Lambda params body scope lpos) X.env) :: backTo pos (starEach [] X.env))) _ _ s
  refine Calls.spliced_cons (lam_make3 I TB hcode hmT hu hT hdef (L.has I.ok) fun f c' pm' ctv H1 s' I1 eN dm T1 hf hfn hfr hco => Calls.spliced_nil ⟨I1.kIn, ?_⟩)
  refine wpAny_call (codeAny_mono (run_ofS (N := Ng) (ps := [a]) (us := [.ref f]) (vs := [.ref f]) (Q := Q) (E := C8.E0) (CX := C8.CX0) lk hcg Sg hr I1.env0 (hb s' [.ref f] I1.kIn rfl) (.cons rfl .nil) rfl fun hr' => ?_) fun r s2 hq => ?_)
  · obtain ⟨t', ht', hq'⟩ := hG f c' s' H1 Q (fun E H' Q' => t E σ H' Q') (fun W pn xe E p1 p2 tk hW => pe_act (i := 0) I1 L hf hfn hfr (hbind _ _ _ _ _) tk hW hr' (fun A outer s H hr2 => hbody A outer s H E f c' hr2) hNg hva hd hcd) hco (h H1 eN dm T1)
    exact ⟨t', ht'.nox, hq'⟩
  · cases r with
    | error e => exact (show False from hq).elim
    | ok fl =>
      cases fl with
      | ret u => exact I1.after hq
      | next => exact False.elim hq
      | brk => exact False.elim hq
      | cont => exact False.elim hq
/-! ## told -/
/-- what _law_told makes of what the deed does -/
def TTold (ecl : EL) : (XK → Hp → VK → Prop) → Hp → VK → Prop := fun tl H Q => ∀ (Ex : XK) (Qx : VK),
  (∀ b H', (∀ H'' p, Same H' H'' → H'' p = some (.tup [.str "refused", .int (if b = true then 1 else 0)]) → Q (.ref p) H'') → Ex (ecl b) none H') →
  (∀ v H', (∀ p, H' p = none → Q (.ref p) (upd H' p (.tup [.str "told", v]))) → Qx v H') → tl Ex H Qx
/-- NoText by false, NoCard by true -/
abbrev eclO (CT CC : Addr) : EL := fun b => .ref (if b = true then CC else CT)
/-- the classes that _law_told asks for -/
structure TF (K : PySem.W.Frag) (mg : Str → Option Value) (ecl : EL) : Prop where
  pe : ∃ C, mg "PegError" = some (.ref C) ∧ ∀ b, PySem.W.exmOne K (ecl b) (.ref C) = some true
  nt : ∃ C, mg "NoText" = some (.ref C) ∧ ∀ b, PySem.W.kitOne K (ecl b) (.ref C) = some (!b)
  nc : ∃ C, mg "NoCard" = some (.ref C) ∧ ∀ b, PySem.W.kitOne K (ecl b) (.ref C) = some b
  ve : mg "ValueError" = none
  vk : ∀ b, PySem.W.kitOne K (ecl b) (.type "ValueError") = some true
  ii : mg "isinstance" = none
  ex : ∀ b, ∃ D, ecl b = .ref D ∧ L2.ExcC K D
def cTold (f : EF) (r : RF) : EF := fun ρ => match r ρ with
  | some b => some (.tuple [.str "refused", .int (if b = true then 1 else 0)])
  | none => (f ρ).bind fun d => some (.tuple [.str "told", d])
/-- the kept table of the one def that makes lambdas -/
def tbM (P : Addr) (q : Str) : Mem := fun H k a => k = 7 ∧ a = P ∧ TabS H P q
theorem tbM_ok (P : Addr) (q : Str) : MemOk (tbM P q) := fun H H' k a s h => ⟨h.1, h.2.1, h.2.2.ext fun b o e => s b o e⟩
theorem tbM_w (P : Addr) (q : Str) : MemW (tbM P q) := fun H a xs ys k p hx h => by
  obtain ⟨h1, h2, ps, e1, e2, e3⟩ := h
  refine ⟨h1, h2, ps, by rw [upd_ne (ne_of e1 hx (fun z => nomatch z))]; exact e1, e2, fun pos cv hc => ?_⟩
  obtain ⟨c, q1, q2⟩ := e3 pos cv hc
  exact ⟨c, q1, by rw [upd_ne (ne_of q2 hx (fun z => by unfold CodeO at z; cases z))]; exact q2⟩
theorem kp_lam {P : Addr} {q : Str} {H H1 : Hp} (e : ExtN H H1) (dm : ∀ b, H1 b = none → H b = none) (t : Tabs [(P, q)] H1) : Kp (tbM P q) noA H H1 :=
  ⟨fun a xs _ h => e a _ h (fun _ z => nomatch z), fun a o u h => e a _ h (fun _ z => nomatch z), fun a xs h => e a _ h (fun _ z => nomatch z), fun k a h => ⟨h.1, h.2.1, t _ List.mem_cons_self⟩, dm⟩
/-- with the table at hand -/
abbrev mT (P : Addr) (q : Str) (H : Hp) : Prop := TabS H P q
section
variable (K : PySem.W.Frag) (P : Addr) (q : Str)
def tEm (f : EF) : TE := fun σ H Q => mT P q H ∧ tE K (tbM P q) f σ H Q
def tKm (f : EF) : TE := fun σ H Q => mT P q H ∧ tK K (tbM P q) f σ H Q
def tTm (f : BF) : TT := fun σ H Q => mT P q H ∧ tT K (tbM P q) f σ H Q
def tSm (F : SF) : TS := fun D σ H => mT P q H ∧ tS K (tbM P q) F D σ H
end
abbrev FEm (X : Cx) (P : Addr) (q : Str) (e : Expr) (f : EF) : Prop := PE X e (tEm X.K P q f)
abbrev FKm (X : Cx) (P : Addr) (q : Str) (e : Expr) (f : EF) : Prop := PE X e (tKm X.K P q f)
abbrev FTm (X : Cx) (P : Addr) (q : Str) (e : Expr) (f : BF) : Prop := PT X e (tTm X.K P q f)
abbrev FSm (X : Cx) (P : Addr) (q : Str) (e : Stmt) (F : SF) : Prop := PS X e (tSm X.K P q F)
abbrev FSsm (X : Cx) (P : Addr) (q : Str) (e : List Stmt) (F : SF) : Prop := PSs X e (tSm X.K P q F)
theorem Kp.mt {P : Addr} {q : Str} {av : Av} {H H' : Hp} (k : Kp (tbM P q) av H H') (h : mT P q H) : mT P q H' := (k.mm 7 P ⟨rfl, rfl, h⟩).2.2
section
variable {X : Cx} {P : Addr} {q : Str} {a b e : Expr} {f h : EF} {F G' : SF} {pos : Pos} {st : Stmt} {rest : List Stmt}
theorem fkm_of (he : FEm X P q e f) : FKm X P q e f := PE.imp he fun σ H Q ⟨m, z⟩ => ⟨m, by
  obtain ⟨H0, av0, av, ρ, d, c, e, k⟩ := z
  exact ⟨H0, av0, av, ρ, d, c, e, fun v H' k1 b1 => k v H' k1 (.inl b1)⟩⟩
theorem fssm_of (h1 : FSs X (tbM P q) rest F) : FSsm X P q rest F := PSs.imp h1 fun Dn σ H z => z.2
theorem fsm_of (h1 : FS X (tbM P q) st F) : FSm X P q st F := PS.imp h1 fun Dn σ H z => z.2
theorem fssm_cons (h1 : FSm X P q st F) (h2 : FSsm X P q rest G') : FSsm X P q (st :: rest) (cSeq F G') := PSs.imp (pss_cons h1 h2) fun Dn σ H z => by
  obtain ⟨m, H0, av0, av, ρ, o, c, e, k⟩ := z
  obtain ⟨o1, e1, e⟩ := bind_some e
  refine ⟨m, H0, av0, av, ρ, o1, c, e1, ?_⟩
  cases o1 with
  | nx ρ' => exact fun av' σ' H' k1 s1 c1 => ⟨k1.mt m, H0, av0, av', ρ', o, c1, e, OutOk.step k1 s1 k⟩
  | rt d => cases e; exact k
  | bk ρ' => cases e; exact k
  | ct ρ' => cases e; exact k
theorem fssm_one (h1 : FSm X P q st F) : FSsm X P q [st] F := pss_one h1
theorem fssm_frz (i : Nat) {ss : List Stmt} (h : FSsm X P q ss F) : FSsm X P q ss (cSeq (cFrz i) F) := PSs.imp h fun Dn σ H z => by
  obtain ⟨m, H0, av0, av, ρ, o, c, e, k⟩ := z
  obtain ⟨o1, e1, e⟩ := bind_some e
  unfold cFrz at e1
  split at e1
  · rename_i ds h1
    cases e1
    obtain ⟨av', s, c'⟩ := c.frz h1
    exact ⟨m, H0, av0, av', _, o, c', e, OutOk.step Kp.refl (fun a z => .inl (s a z)) k⟩
  · cases e1
theorem fsm_ret (he : FEm X P q e f) : FSm X P q (.Return (some e) pos) (cRet f) := PS.imp (ps_ret he) fun Dn σ H z => by
  obtain ⟨m, H0, av0, av, ρ, o, c, e, k⟩ := z
  obtain ⟨d, e1, e⟩ := bind_some e
  cases e
  exact ⟨m, H0, av0, av, ρ, d, c, e1, fun v H1 k1 b1 => k v H1 (c.kp.trans k1) (b1.weak fun a z => .inl (c.sub a z))⟩
theorem fsm_set {i : Nat} {tg : Stmt} (h : PS X tg (tAsg (tEm X.K P q f) (gName i))) : FSm X P q tg (cAsg f (gV i)) := PS.imp h fun Dn σ H z => by
  obtain ⟨m, H0, av0, av, ρ, o, c, e, k⟩ := z
  obtain ⟨d, e1, e⟩ := bind_some e
  cases e
  exact ⟨m, H0, av0, av, ρ, d, c, e1, fun v H1 k1 b1 => Aft.now k k1 ((c.mono k1).setVa b1)⟩
theorem fsm_if {c : Expr} {t : BF} {as bs : List Stmt} (hc : FTm X P q c t) (ha : FSsm X P q as F) (hb : FSsm X P q bs G') : FSm X P q (.If c as bs pos) (cIfS t F G') := PS.imp (ps_if hc ha hb) fun Dn σ H z => by
  obtain ⟨m, H0, av0, av, ρ, o, c, e, k⟩ := z
  obtain ⟨x, e1, e⟩ := bind_some e
  refine ⟨m, H0, av0, av, ρ, x, c, e1, fun H1 k1 => ?_⟩
  cases x with
  | true => exact ⟨k1.mt m, H0, av0, av, ρ, o, c.mono k1, e, OutOk.step k1.of sub_refl k⟩
  | false => exact ⟨k1.mt m, H0, av0, av, ρ, o, c.mono k1, e, OutOk.step k1.of sub_refl k⟩
theorem ftm_of {t : BF} (h1 : FT X (tbM P q) e t) : FTm X P q e t := PT.imp h1 fun σ H Q z => z.2
theorem fem_of (h1 : FE X (tbM P q) e f) : FEm X P q e f := PE.imp h1 fun σ H Q z => z.2
theorem two_m {f h : EF} {g : D → D → Option D} {σ : L2.St} {H : Hp} {Q : VK} (z : tEm X.K P q (c2 g f h) σ H Q) : tOp (r2 X.K (tbM P q) g) (tKm X.K P q f) (tK X.K (tbM P q) h) σ H Q := by
  obtain ⟨m, H0, av0, av, ρ, d, c, e, k⟩ := z
  obtain ⟨x, e1, e⟩ := bind_some e
  obtain ⟨y, e2, e⟩ := bind_some e
  refine ⟨m, H0, av0, av, ρ, x, c, e1, fun v H1 k1 b1 => ?_⟩
  refine ⟨H0, av0, av, ρ, y, c.mono k1, e2, fun w H2 k2 b2 => ?_⟩
  exact ⟨av, x, y, d, b1.mono k2, b2, (c.mono (k1.trans k2)).dom, e, fun u H3 k3 b3 => k u H3 ((k1.trans k2).trans k3) b3⟩
theorem fem_cmp {op : CmpOp} {g : D → D → Option D} (ho : OpR X (compareOp op) (r2 X.K (tbM P q) g)) (ha : FKm X P q a f) (hb : FK X (tbM P q) b h) (hm : behindInMarks op b = false) : FEm X P q (.Compare a [op] [b] pos) (c2 g f h) :=
  PE.imp (pe_cmpR ho ha hb hm) fun σ H Q z => two_m z
theorem ftm_cmp {op : CmpOp} {g : D → D → Option D} (ho : OpR X (compareOp op) (r2 X.K (tbM P q) g)) (ha : FKm X P q a f) (hb : FK X (tbM P q) b h) (hm : behindInMarks op b = false) : FTm X P q (.Compare a [op] [b] pos) (cT1 asB (c2 g f h)) :=
  PT.imp (pt_cmpR ho ha hb hm) fun σ H Q z => by
    obtain ⟨m, H0, av0, av, ρ, d, c, e, k⟩ := z
    obtain ⟨x, e1, e⟩ := bind_some e
    refine two_m (g := g) ⟨m, H0, av0, av, ρ, x, c, e1, fun v H1 k1 b1 => ?_⟩
    unfold asB at e
    split at e
    · cases e
      cases b1
      exact ⟨_, rfl, k H1 k1⟩
    · cases e
theorem ftm_and {t u : BF} (ha : FTm X P q a t) (hb : FTm X P q b u) : FTm X P q (.BoolOp .And [a, b] pos) (cAnd t u) := PT.imp (PW.pt (pw_and ha (pw_and1 hb))) fun σ H Q z => by
  obtain ⟨m, H0, av0, av, ρ, d, c, e, k⟩ := z
  obtain ⟨x, e1, e⟩ := bind_some e
  refine ⟨m, H0, av0, av, ρ, x, c, e1, fun H1 k1 => ?_⟩
  cases x with
  | true => exact ⟨k1.mt m, H0, av0, av, ρ, d, c.mono k1, e, fun H2 k2 => k H2 (k1.trans k2)⟩
  | false => cases e; exact k H1 k1
theorem fem_or (ha : FEm X P q a f) (hb : FEm X P q b h) : FEm X P q (.BoolOp .Or [a, b] pos) (cOrV f h) := PE.imp (pe_or ha (pe_one hb)) fun σ H Q z => by
  obtain ⟨m, H0, av0, av, ρ, d, c, e, k⟩ := z
  obtain ⟨x, e1, e⟩ := bind_some e
  obtain ⟨y, e2, e⟩ := bind_some e
  refine ⟨m, H0, av0, av, ρ, x, c, e1, fun v H1 k1 b1 => ?_⟩
  unfold asB at e2
  split at e2
  · cases e2
    cases b1
    refine ⟨_, rfl, ?_⟩
    cases y with
    | false => exact ⟨k1.mt m, H0, av0, av, ρ, d, c.mono k1, e, fun v H2 k2 b2 => k v H2 (k1.trans k2) b2⟩
    | true => cases e; exact k _ H1 k1 (.bl true)
  · cases e2
theorem fsm_for {tg iter : Expr} {body : List Stmt} {it : LF} {g : GF} {vs : List Nat} {B : SF} (hp : PassesOwn (model X.prog X.w) X.A X.env X.xe) (hc : X.calm = true) (hi : FI X (tbM P q) tg iter it) (hg : FG X (tbM P q) tg g vs) (hb : FSsm X P q body B)
    (hs : ∀ x, foldedSetIterable iter X.env x = pure x := by intro _; rfl) : FSm X P q (.For tg iter body [] pos) (cFor it g B) := PS.imp (ps_for hp hc hi hg hb hs) fun Dn σ H z => by
  obtain ⟨m0, H0, av0, av, ρ, o, c, e, post⟩ := z
  obtain ⟨ds, e1, e⟩ := bind_some e
  refine ⟨H0, av0, av, ρ, ds, c, e1, fun J H1 k1 wk => ?_⟩
  have m1 := k1.mt m0
  refine ⟨fun i m σ' H' => m = ds.length - i ∧ i ≤ ds.length ∧ ∃ av' ρ', Kp (tbM P q) av H1 H' ∧ (∀ a, av' a → av a ∨ H1 a = none) ∧ Cor X.K (tbM P q) H0 av0 av' H' σ' ρ' ∧ forL g B (ds.drop i) ρ' = some o, ⟨ds.length, by simp, Nat.zero_le _, av, ρ, Kp.refl, sub_refl, c.mono k1, by simpa using e⟩, ?_⟩
  rintro i m σ' H' ⟨rfl, hi, av', ρ', k2, s2, c2, e2⟩
  have w := wk i av' H' s2 c2.dom k2
  have post1 : OutOk X.K (tbM P q) H0 av0 av H1 Dn o := OutOk.step k1.of sub_refl post
  have post2 : OutOk X.K (tbM P q) H0 av0 av' H' Dn o := OutOk.step k2 s2 post1
  cases g1 : ds[i]? with
  | none =>
    refine .inl ⟨w.2 g1, ?_⟩
    have : ds.drop i = [] := List.drop_eq_nil_of_le (List.getElem?_eq_none_iff.mp g1)
    rw [this] at e2
    cases e2
    exact Aft.now post2 Kp.refl c2
  | some d =>
    obtain ⟨hlt, hd⟩ := List.getElem?_eq_some_iff.mp g1
    have hdr : ds.drop i = d :: ds.drop (i + 1) := by rw [List.drop_eq_getElem_cons hlt, hd]
    rw [hdr] at e2
    obtain ⟨ρ1, e3, e2⟩ := bind_some e2
    obtain ⟨o1, e4, e2⟩ := bind_some e2
    refine .inr ⟨(w.1 d g1).1, fun σ'' H'' => ∃ m', m' < ds.length - i ∧ m' = ds.length - (i + 1) ∧ i + 1 ≤ ds.length ∧ ∃ av' ρ', Kp (tbM P q) av H1 H'' ∧ (∀ a, av' a → av a ∨ H1 a = none) ∧ Cor X.K (tbM P q) H0 av0 av' H'' σ'' ρ' ∧ forL g B (ds.drop (i + 1)) ρ' = some o, fun σ'' H'' ⟨m', h1, h2⟩ => ⟨m', h1, h2⟩, fun x H3 y => ?_⟩
    obtain ⟨k3, b3⟩ := (w.1 d g1).2 x H3 y
    refine ⟨H0, av0, av', ρ', d, ρ1, c2.mono k3, b3, e3, fun σ4 _ c4 => ?_⟩
    refine ⟨(k2.trans k3.of).mt m1, H0, av0, av', ρ1, o1, c4, e4, ?_⟩
    have again : ∀ ρ2 : Ev, forL g B (ds.drop (i + 1)) ρ2 = some o → Aft X.K (tbM P q) H0 av0 av' H3 ρ2 (fun σ'' H'' => ∃ m', m' < ds.length - i ∧ m' = ds.length - (i + 1) ∧ i + 1 ≤ ds.length ∧ ∃ av' ρ', Kp (tbM P q) av H1 H'' ∧ (∀ a, av' a → av a ∨ H1 a = none) ∧ Cor X.K (tbM P q) H0 av0 av' H'' σ'' ρ' ∧ forL g B (ds.drop (i + 1)) ρ' = some o) :=
      fun ρ2 e5 av5 σ5 H5 k5 s5 c5 => ⟨_, by omega, rfl, hlt, av5, ρ2, (k2.trans k3.of).step (fun a z => s2 a z) k5, sub_step (k2.trans k3.of) s2 s5, c5, e5⟩
    cases o1 with
    | nx ρ2 => exact again ρ2 e2
    | ct ρ2 => exact again ρ2 e2
    | bk ρ2 =>
      cases e2
      exact Aft.step k3.of sub_refl post2
    | rt d2 => cases e2; exact post2
/-- x(lambda: body), x as _law_told is -/
theorem fem_told {ecl : EL} {x a : Str} {g c : Addr} {k : Nat} {pg : Arguments} {bg : List Stmt} {sg : Scope} {dV kV doc pm cdv ct oc : Value} {an od : Option Addr} {osl : Array (Option Value)} {Ng : List Str}
    {params : Arguments} {body : Expr} {scope : Scope} {r : RF} {p lpos : Pos} (hg : Gl X x) (hm : X.mg x = some (.ref g)) (hk : PySem.W.keepIn X.K (.ref g) = true)
    (lk : X.K.lookup g = some ⟨oc, od, .func (PySem.W.fnOf x x pg bg sg dV kV doc pm an cdv ct), osl⟩) (hcg : PySem.W.codeIn X.K cdv x = true) (hb : L2.Binds X.K (PySem.W.fnOf x x pg bg sg dV kV doc pm an cdv ct) [a] []) (Sg : FnScope Ng [a] sg) (hNg : Ng[0]? = some a) (hva : Vis sg a)
    (hG : GivesTo X Ng x sg g cdv bg a (X.env.qual ++ "<lambda>") (TTold ecl))
    (TB : TabB X.base X.mg c P) (hcode : X.env.code = .ref c) (hq : q = X.env.qual ++ "<lambda>") (hr : Room (k + 2) X.A) (L : LamS X.env.scope scope) (hdef : defaultsOf params X.env = ([], []))
    (hbind : ∀ (q : Str) (cl : List (Str × Addr)) (pm cv ctv : Value), bindArgs (PySem.W.kla_fn "<lambda>" q params body scope cl pm cv ctv) ⟨[], []⟩ = pure [])
    (hF : ∀ (A : Around) (outer : List Env) (s : Shared) (H : Hp) (E : XK) (f0 c' : Addr), Room k (A.deeper (lamEnv X scope s.heap.objs.size f0 c')) → FE (lamCx X A outer s H E scope f0 c') (tbM P q) body f)
    (hR : ∀ (A : Around) (outer : List Env) (s : Shared) (H : Hp) (E : XK) (f0 c' : Addr), Room k (A.deeper (lamEnv X scope s.heap.objs.size f0 c')) → RE (lamCx X A outer s H E scope f0 c') (tbM P q) ecl (fun c d _ H => E c d H) body r)
    (hdb : (x == ("__debug__" : Str)) = false := by decide) (hd : (a == ("__debug__" : Str)) = false := by decide) (hcd : (a == ("__classdict__" : Str)) = false := by decide) :
    FEm X P q (.Call (.Name x p) [.Lambda params body scope lpos] [] pos) (cTold f r) := by
  refine PE.imp (pe_lamcall3 (T := [(P, q)]) (TT := TTold ecl) (t := fun E σ H Q => tE X.K (tbM P q) f σ H Q ∨ tR X.K (tbM P q) ecl (fun c d _ H => E c d H) r σ H Q) hg hm hk lk hcg hb Sg hNg hva hG TB hcode (by rw [hq]; exact List.mem_cons_self) (fun p hp e => by rw [List.mem_singleton.mp hp]; exact hq) hr L hdef hbind
    (fun A outer s H E f c' hr' => PE.or (hF A outer s H E f c' hr') (hR A outer s H E f c' hr')) hdb hd hcd) fun σ H Q z => ?_
  obtain ⟨m, H0, av0, av, ρ, d, c, e, post⟩ := z
  refine ⟨fun p hp => by rw [List.mem_singleton.mp hp]; exact m, fun H1 eN dm t1 Ex Qx hE hQ => ?_⟩
  have k1 : Kp (tbM P q) noA H H1 := kp_lam eN dm t1
  have c1 := c.mono k1
  unfold cTold at e
  split at e
  · rename_i b hb2
    cases e
    refine .inr ⟨H0, av0, av, ρ, b, c1, hb2, fun H' k2 => hE b H' fun H'' p sm hp => ?_⟩
    have k3 := Kp.same (tbM_ok P q) sm
    exact post _ H'' ((k1.trans k2).trans k3) (.tup hp (.cons (.str _) (.cons (.int _) .nil)))
  · obtain ⟨x, e1, e⟩ := bind_some e
    cases e
    refine .inl ⟨H0, av0, av, ρ, x, c1, e1, fun v H' k2 b2 => hQ v H' fun p hp => ?_⟩
    have kn := Kp.new (o := HO.tup [.str "told", v]) (tbM_ok P q) hp
    exact post _ _ ((k1.trans k2).trans kn) (.tup upd_same (.cons (.str _) (.cons (b2.mono kn.of) .nil)))
end
/-- the law's promise, the table at hand -/
def spT (K : PySem.W.Frag) (P : Addr) (q : Str) (F : List D → Option D) : Sp := fun vs H Q E => TabS H P q ∧ spF K (tbM P q) 1 F vs H Q E
theorem law_okT {Pr : Program} {w : World} {K : PySem.W.Frag} {mg : Str → Option Value} {base : Heap} {name qual x : Str} {st : Stmt} {f c P : Addr} {q : Str} {oc : Value} {od an : Option Addr} {osl : Array (Option Value)} {dV kV doc pm ct : Value} {N : List Str} {k : Nat} {B : SF}
    (lk : K.lookup f = some ⟨oc, od, .func (PySem.W.fnOf name qual (defArgs st) (defBody st) (defScope st) dV kV doc pm an (.ref c) ct), osl⟩) (hcd : PySem.W.codeIn K (.ref c) qual = true) (S : FnScope N [x] (defScope st))
    (hbody : ∀ (A : Around) (outer : List Env) (s : Shared) (H : Hp) (E : XK), Room k (A.deeper (envOfC qual (defScope st) s.heap.objs.size f (.ref c))) → FSsm (cxOf CX0 Pr w K mg base N qual (defScope st) f (.ref c) A outer s H E).nox P q (defBody st) B) :
    FnOk Pr w K mg base CX0 (k + 1) f (PySem.W.fnOf name qual (defArgs st) (defBody st) (defScope st) dV kV doc pm an (.ref c) ct) [x] (spT K P q (runF N.length B)) := by
  refine fn_of lk hcd S (fun vs H Q E h => ?_) (fun A outer s H vs Q E hr h => ?_)
  · obtain ⟨_, _, _, _, h, _⟩ := h; exact h
  · obtain ⟨m, av, ds, d, hl, b, hd, e, qq⟩ := h
    obtain ⟨o, e1, e⟩ := bind_some e
    refine ⟨_, (hbody A outer s H E hr).nox, m, H, av, av, _, o, start_cor b hd, e1, ?_⟩
    cases o with
    | rt d' => cases e; exact qq
    | nx ρ => cases e; exact fun av' σ' H' k1 s1 c1 => qq .non H' c1.kp .non
    | bk ρ => cases e
    | ct ρ => cases e
theorem ints_br {K : PySem.W.Frag} {M : Mem} {av : Av} {H : Hp} : ∀ ns : List Int, BrL K M av H (ns.map V.int) (ns.map PyData.int)
  | [] => .nil
  | n :: r => .cons (.int n) (ints_br r)
theorem law_startT {K : PySem.W.Frag} {P : Addr} {q : Str} {F : List D → Option D} {H : Hp} {a : Addr} {ns : List Int} (hP : H P = some (.tbl #[])) (hS : SqL K H a (ns.map V.int)) (h1 : F [scrD ns] = some (.bool true)) (h2 : F [.list (ns.map PyData.int)] = some (.bool true)) :
    spT K P q F [.ref a] H (fun v _ => v = .bl true) fun _ _ _ => False := by
  refine ⟨TabS.nil hP, ?_⟩
  have fin : ∀ d, Br K (tbM P q) noA H (.ref a) d → F [d] = some (.bool true) → spF K (tbM P q) 1 F [.ref a] H (fun v _ => v = .bl true) fun _ _ _ => False :=
    fun d b h => ⟨noA, [d], .bool true, rfl, .cons b .nil, fun _ z => z.elim, h, fun v H' k b => by cases b; rfl⟩
  rcases hS with h | h
  · rcases h with h | h
    · exact fin _ (.lst h (fun z => z.elim) (ints_br ns)) h2
    · exact fin _ (.scr (.inl h)) h1
  · exact fin _ (.scr (.inr (.inr h))) h1
theorem lawAt_of {l : PySem.W.OpenLaw} {w : World} {K : PySem.W.Frag} {n k : Nat} {x : Str} {mg : Str → Option Value} {fa c P : Addr} {h : Heap} {q : Str} {F : List D → Option D} {fd : FuncData} {oc : Value} {od : Option Addr} {osl : Array (Option Value)} {e0 : Value} {dd : Option Addr} {vs : Array Value} {sl : Array (Option Value)}
    (X : K.In h) (own : OwnTab K fa h) (lk : K.lookup fa = some ⟨oc, od, .func fd, osl⟩) (hc : fd.code = .ref c) (lc : K.lookup c = some ⟨e0, dd, .fields vs, sl⟩) (v11 : vs[11]? = some (.ref P)) (nP : K.lookup P = none) (cd : PySem.W.codeHdIn K c P = true)
    (hb : ∀ (s : Shared) (u : Value), BindsTo s fd ⟨[u], []⟩ [(x, u)]) (h1 : ∀ ns : List Int, ns.length ≤ n → F [scrD ns] = some (.bool true)) (h2 : ∀ ns : List Int, ns.length ≤ n → F [.list (ns.map PyData.int)] = some (.bool true))
    (hF : ∀ base : Heap, K.In base → base.Ns mainGlobals mg → TabB base mg c P → FnOk l.prog w K mg base CX0 k fa fd [x] (spT K P q F)) : LawAtS l w K CX0 k n x mg fa h :=
  ⟨fd, [(c, P)], spT K P q F, fun p hp => by rw [List.mem_singleton.mp hp]; exact own c P _ fd _ _ _ _ lk rfl hc lc v11, fun p hp => by rw [List.mem_singleton.mp hp]; exact nP, fun p hp => by rw [List.mem_singleton.mp hp]; exact PySem.W.codeHd_of_K X cd, hb,
    fun H a ns hl _ hT hS => law_startT (hT _ List.mem_cons_self) hS (h1 ns hl) (h2 ns hl), fun base hK hN hT => hF base hK hN (hT _ List.mem_cons_self)⟩
theorem tf_of {K : PySem.W.Frag} {h : Heap} {mg : Str → Option Value} {CP CT CC : Addr} (X : K.In h) (G : h.Ns mainGlobals mg) (iP : PySem.W.nsIn K mainGlobals "PegError" = some (some (.ref CP))) (iT : PySem.W.nsIn K mainGlobals "NoText" = some (some (.ref CT))) (iC : PySem.W.nsIn K mainGlobals "NoCard" = some (some (.ref CC)))
    (zV : PySem.W.nsIn K mainGlobals "ValueError" = some none) (zI : PySem.W.nsIn K mainGlobals "isinstance" = some none) (e1 : PySem.W.exmOne K (.ref CT) (.ref CP) = some true) (e2 : PySem.W.exmOne K (.ref CC) (.ref CP) = some true)
    (t1 : PySem.W.kitOne K (.ref CT) (.ref CT) = some true) (t2 : PySem.W.kitOne K (.ref CC) (.ref CT) = some false) (t3 : PySem.W.kitOne K (.ref CT) (.ref CC) = some false) (t4 : PySem.W.kitOne K (.ref CC) (.ref CC) = some true)
    (v1 : PySem.W.kitOne K (.ref CT) (.type "ValueError") = some true) (v2 : PySem.W.kitOne K (.ref CC) (.type "ValueError") = some true) (x1 : L2.ExcC K CT) (x2 : L2.ExcC K CC) : TF K mg (eclO CT CC) where
  pe := ⟨CP, PySem.W.mg_of X G iP, fun b => by cases b; exact e1; exact e2⟩
  nt := ⟨CT, PySem.W.mg_of X G iT, fun b => by cases b; exact t1; exact t2⟩
  nc := ⟨CC, PySem.W.mg_of X G iC, fun b => by cases b; exact t3; exact t4⟩
  ve := PySem.W.mg_none_of X G zV
  vk := fun b => by cases b; exact v1; exact v2
  ii := PySem.W.mg_none_of X G zI
  ex := fun b => by cases b; exact ⟨CT, rfl, x1⟩; exact ⟨CC, rfl, x2⟩
end G

namespace G
open PySem PySem.Spec PyProof.Rows L2
/-! ## a comprehension whose element raises -/
/-- behind the block: its dictionary is left, what raised goes on from the def's own frame -/
def cPost (M : Model) (A : Around) (E : Value → Shared → Prop) (Q : Value → Shared → Prop) (acc : Value) (ce : Env) (r : Result) (s' : Shared) : Prop :=
  match r with
  | .ok _ => ∃ m, s'.heap.Ns ce.locals m ∧ ∀ h', Heap.SameBut ce.locals s'.heap h' → Q acc { s' with heap := h' }
  | .error x => ∃ m, s'.heap.Ns ce.locals m ∧ ∀ h', Heap.SameBut ce.locals s'.heap h' → wpAny M A (passOn "comprehension.variables-let-go" x ce : Sem Value) (fun _ _ => False) E { s' with heap := h' }
section
variable {M : Model} {A : Around} {E : Value → Shared → Prop} {env : Env} {s : Shared}
theorem comp_raise {e : Expr} {scope : Scope} {pos : Pos} {newAcc first : Sem Value} {g : Comprehension} {gs : List Comprehension} {cl : List (Str × Addr)} {Q : Value → Shared → Prop}
    (hcl : clausesOf e = g :: gs) (hs : ∀ x, foldedSetIterable g.iter env x = pure x) (hclos : closureFor scope env = pure cl) (hkind : scope.kind = .function) (hnames : ∀ x ∈ scope.names, x.2 = .local → scope.names.lookup x.1 = some .local)
    (h : wpAny M A first (fun x s₁ => wpAny M A (pyIter x) (fun it s₂ => wpAny M A newAcc (fun acc s₃ => wpAny M A (newFunctionEnv scope env.globals cl [] env.qual none .none (some env)) (fun cenv s₄ =>
        codeAny M A (.compStart e 0 it acc { cenv with scope := relabel scope env }) (cPost M A E Q acc { cenv with scope := relabel scope env }) s₄) E s₃) E s₂) E s₁) E s) :
    wpAny M A (comprehension e scope env pos newAcc false first none) Q E s := by
  unfold comprehension
  rw [hclos, hcl]
  refine wpAny_bind (wpAny_mono h (fun x s₁ h₁ => wpAny_bind (wpAny_standAt (wpAny_bind (wpAny_of_eq (hs x) (wpAny_bind (wpAny_holding (wpAny_mono h₁ (fun it s₂ h₂ =>
    wpAny_standIf (wpAny_bind (wpAny_mono h₂ (fun acc s₃ h₃ => wpAny_bind (wpAny_pure (wpAny_bind (wpAny_mono h₃ (fun cenv s₄ h₄ => ?_) fun _ _ h' => h')))) fun _ _ h' => h')))
      fun _ _ h' => h'))))))) fun _ _ h' => h')
  dsimp only
  have hv : ∀ x ∈ (scope.names.filter fun x => (x.2 == .local || x.2 == .cell) && x.1 != (".0" : Str)).reverse, x.2 = .local → Env.kindOf { cenv with scope := relabel scope env } x.1 = some .local :=
    fun x hx hl => lookup_relabel_local (hnames x (List.mem_filter.mp (List.mem_reverse.mp hx)).1 hl)
  refine wpAny_holding (wpAny_bind (wpAny_attempt (wpAny_holding (wpAny_run (codeAny_mono h₄ fun r s' hr => ?_)))))
  cases r with
  | ok f =>
    obtain ⟨m, hn, hr⟩ := hr
    exact wpAny_bind (wpAny_holding (wpAny_comp_letGo (cenv := { cenv with scope := relabel scope env }) hkind _ s' m hv hn fun h' m' _ hs' => wpAny_pure (hr h' hs')))
  | error x =>
    obtain ⟨m, hn, hr⟩ := hr
    exact wpAny_bind (wpAny_holding (wpAny_comp_letGo (cenv := { cenv with scope := relabel scope env }) hkind _ s' m hv hn fun h' m' _ hs' => wpAny_mono (hr h' hs') (fun _ _ f => f.elim) fun _ _ y => y))
end
theorem funFrames_but {base B' h h' : Heap} {C : Addr} (nB : ∀ b, base.get? b = none → B'.get? b = none) (sb : Heap.SameBut C h h') : ∀ {l : List Env}, C ∉ frs l → h.FunFrames base l → h'.FunFrames B' l
  | [], _, _ => trivial
  | env :: l, hC, q => by
    obtain ⟨hk, ⟨L, o, hf, hn, ho, hd⟩, hr⟩ := q
    have hL : L ≠ C := fun z => hC (List.mem_filterMap.mpr ⟨env, List.mem_cons_self, by rw [hf, z]⟩)
    exact ⟨hk, ⟨L, o, hf, nB L hn, (sb.2 L hL).trans ho, hd⟩, funFrames_but nB sb (fun z => hC (by
      obtain ⟨e, he, q⟩ := List.mem_filterMap.mp z
      exact List.mem_filterMap.mpr ⟨e, List.mem_cons_of_mem _ he, q⟩)) hr⟩
section
variable {X : Cx} {pins : List (Addr × Obj)} {σ : L2.St} {H : Hp} {s s' : Shared} {W : WX} {C : Addr} {ce : Env} {u : Value} {E₁ : Value → Shared → Prop}
/-- it leaves the block -/
theorem block_out (I : Inv X pins σ H s) (tk : Takes X W) (hs : X.stack = X.env :: X.outer) (hf : X.env.frame = some X.env.locals) (hce : ce.frame = X.env.frame) (hcl : ce.locals = C) {m : Str → Option Value} (hns : s.heap.Ns C m) (hC : FpOk X pins H C) (nfr : C ∉ frs X.stack)
    (c : L2.CX X.prog X.w X.stack H s (fun cls d H' => W cls d σ H') u s') {Q : Value → Shared → Prop} {acc : Value} : notedBy (model X.prog X.w) X.A ce (fun e s'' => cPost (model X.prog X.w) X.A X.xe Q acc ce (.error e) s'') u s' := by
  obtain ⟨a, B, H', cls, d, rfl, fl, hok, ub, na, os, ag, hE⟩ := c
  have hfr : X.A.frames = some (X.env :: X.outer) := by rw [I.ok.frames, hs]
  obtain ⟨oC, es, ep, eC, dC, rC⟩ := hns
  have BC : B.get? C = some oC := ub.keep C oC eC hC.1 nfr
  have HC' : H' C = none := ub.free C oC eC hC.1
  have hB1 : ∀ b o, (PySem.W.hideAll B [C]).get? b = some o → b ≠ C ∧ B.get? b = some o := fun b o e => by
    refine ⟨fun z => ?_, PySem.W.of_hideAll _ e⟩
    rw [PySem.W.hideAll_none [C] (by simp [z])] at e
    cases e
  have hB2 : ∀ b o, b ≠ C → B.get? b = some o → (PySem.W.hideAll B [C]).get? b = some o := fun b o n e => PySem.W.hideAll_get [C] e (by simpa using n)
  have hB3 : ∀ b, B.get? b = none → (PySem.W.hideAll B [C]).get? b = none := fun b n => by
    cases q : (PySem.W.hideAll B [C]).get? b with
    | none => rfl
    | some o => rw [(hB1 b o q).2] at n; cases n
  obtain ⟨B', eB'⟩ : ∃ B', B' = PySem.W.hideAll B [C] := ⟨_, rfl⟩
  rw [← eB'] at hB1 hB2 hB3
  show wpAny _ X.A (noteFrame (.ref a) ce) _ _ s'
  have en : noteFrame (.ref a) ce = noteFrame (.ref a) X.env := by unfold noteFrame PySem.frameOf; rw [hce]
  rw [en]
  rw [hs] at fl
  refine HandSPX.looks_onZ Zc.steady hfr hf fl fun h1 hh up1 => ?_
  obtain ⟨g1, g2, g3, g4⟩ := hh
  refine ⟨m, by rw [hcl]; exact ⟨oC, es, ep, g1 C oC BC, dC, rC⟩, fun h2 sb => ?_⟩
  rw [hcl] at sb
  rw [hs] at nfr
  obtain ⟨oe, vs, T, oT, ts, he, hz, hd, h1x, hnT, hTe, hT, hdT, h3⟩ := g4
  have h1C := g1 C oC BC
  have aC : a ≠ C := fun z => by rw [z, h1C] at he; cases he; rw [dC] at hd; cases hd
  have TC : T ≠ C := fun z => by rw [z, h1C] at hT; cases hT; rw [dC] at hdT; cases hdT
  have he2 : h2.get? a = some oe := (sb.2 a aC).trans he
  have hT2 : h2.get? T = some oT := (sb.2 T TC).trans hT
  have tr2 : HandSPX.TracedZ h2 B' a (Zc cls d) (rawInt X.env.locals) := ⟨oe, vs, T, oT, ts, he2, hz, hd, h1x, hB3 T hnT, hTe, hT2, hdT, h3⟩
  have st2 : B'.StaysIn h2 := fun b o e => (sb.2 b (hB1 b o e).1).trans (g1 b o (hB1 b o e).2)
  have ff2 := funFrames_but (B' := B') hB3 sb nfr g3
  unfold PySem.passOn
  refine wpAny_bind (wpAny_field he2 hd h1x ?_)
  rw [if_neg (show ¬ ((Value.ref T == Value.none) = true) from by simp)]
  have fin : wpAny (model X.prog X.w) X.A (setFlight (.ref a) ce.frame) (fun _ s4 => wpAny (model X.prog X.w) X.A (throw (.ref a) : Sem Value) (fun _ _ => False) X.xe s4) X.xe { s' with heap := h2 } := by
    rw [hce, hf]
    refine HandSPX.setFlight_anyZ st2 ff2 tr2 fun h3' k1 k2 k3 k4 => wpAny_throw (tk _ _ ?_)
    have st : B.StaysIn s'.heap := fl.1
    obtain ⟨G, p1, p2⟩ := restrict s'.heap fun b => (B'.get? b).isSome || decide (b ∈ frs X.stack)
    have gB : ∀ b o, B'.get? b = some o → G.get? b = some o := fun b o e => by
      rw [p1 b (by simp [e])]
      exact st b o (hB1 b o e).2
    have gF : ∀ b, b ∈ frs X.stack → G.get? b = s'.heap.get? b := fun b hb => p1 b (by simp [hb])
    have og : ∀ b o, G.get? b = some o → s'.heap.get? b = some o ∧ ((B'.get? b).isSome = true ∨ b ∈ frs X.stack) := fun b o e => by
      cases q : ((B'.get? b).isSome || decide (b ∈ frs X.stack)) with
      | false => rw [p2 b q] at e; cases e
      | true =>
        rw [p1 b q] at e
        exact ⟨e, by simpa [Bool.or_eq_true] using q⟩
    have hok' : HOk X.prog X.w H' B' := fun b o q => (hok b o q).stay (fun c u hc r => hB2 c u (fun z => by
      rcases hc with hc | hc
      · rw [← hc, z, HC'] at q; cases q
      · rw [z, HC'] at hc; cases hc) r) (fun _ r => r) fun _ _ r => r
    have nfs : C ∉ frs X.stack := by rw [hs]; exact nfr
    have nG : ∀ b o, G.get? b = some o → b ≠ C := fun b o e z => by
      rcases (og b o e).2 with q | q
      · obtain ⟨o', q⟩ := Option.isSome_iff_exists.mp q
        exact (hB1 b o' q).1 z
      · exact nfs (z ▸ q)
    refine ⟨a, B', { s with heap := G, gens := s'.gens, drawn := s'.drawn, toks := s'.toks }, pins, σ, H', cls, d, rfl, ?_, fun b o e hb => ?_, ?_, .inr (.inr ⟨k1, hB3 a g2, by rw [hs]; exact k2, k3⟩), na, os, ag, hE⟩
    · refine I.call (ch := [C]) ⟨fun b o e n hb hc => gB b o (hB2 b o (by simpa using hc) (ub.keep b o e n hb)), fun b o e n hb _ => ?_, fun b o e n _ => ub.free b o e n, fun b o e hc => ?_, ub.tups, ub.frzs, ub.tbls⟩ (hok'.kept gB) ag (fun b hb => by
        have : b = C := by simpa using hb
        subst this
        exact ⟨hC.2.2.2.1, hC.2.1, hC.2.2.2.2.1, hC.2.2.2.2.2⟩)
      · obtain ⟨sl, q⟩ := ub.slot b o e hb
        exact ⟨sl, by rw [gF b hb]; exact q⟩
      · by_cases hb : b ∈ frs X.stack
        · obtain ⟨sl, q⟩ := ub.slot b o e hb
          exact ⟨_, by rw [gF b hb]; exact q⟩
        · obtain ⟨o', q⟩ := ub.there b o e hb
          exact ⟨o', gB b o' (hB2 b o' (by simpa using hc) q)⟩
    · obtain ⟨e', h⟩ := og b o e
      rcases h with h | h
      · obtain ⟨o', q⟩ := Option.isSome_iff_exists.mp h
        have z := st b o' (hB1 b o' q).2
        rw [e'] at z; cases z
        exact q
      · exact absurd h hb
    · have up0 : Heap.UpToSlots G h2 := fun b o e hn => by
        obtain ⟨sl, q⟩ := up1 b o (og b o e).1 hn
        exact ⟨sl, (sb.2 b (nG b o e)).trans q⟩
      exact up0.trans k4
  first
    | exact wpAny_bind (wpAny_pure (wpAny_bind fin))
    | exact wpAny_bind fin
end
section
variable {X : Cx}
/-- the element's context within a block, where an exception may leave -/
abbrev blkX (X : Cx) (s : Shared) (H : Hp) (scope : Scope) (C : Addr) (cl : List (Str × Addr)) (fp : List Addr) (xe : Value → Shared → Prop) : Cx := (X.blk s H scope (compEnvC scope cl C X.env) fp).wish xe
/-- what an element asks: calls may let out what W0 takes -/
def BlkPass (X Y : Cx) (W0 : XK) : Prop := ∀ σ, PassesAt (L2.CX X.prog X.w) Y σ W0
theorem lcX_core {pins : List (Addr × Obj)} {s : Shared} {σ : L2.St} {H : Hp} {Q : VK} {elt tg iter : Expr} {ifs : List Expr} {scope : Scope} {own : List (Str × Nat)} {pos pos' : Pos} {wi : TI} {g : TG} {tt : TT} {te : TE} {W0 : XK}
    (hc : X.calm = true) (hN : X.N.Nodup) (tk : Takes X (fun c d _ H => W0 c d H)) (hst : X.stack = X.env :: X.outer) (hfm : X.env.frame = some X.env.locals) (I : Inv X pins σ H s) (hi : PI X tg iter wi) (ok : BlkOk X.N X.env.scope scope own)
    (hg : ∀ (s : Shared) (H : Hp) (C : Addr) (cl : List (Str × Addr)) (fp : List Addr), PG (X.blk s H scope (compEnvC scope cl C X.env) fp) tg g) (ht : ∀ (s : Shared) (H : Hp) (C : Addr) (cl : List (Str × Addr)) (fp : List Addr), PTs (X.blk s H scope (compEnvC scope cl C X.env) fp) ifs tt)
    (he : ∀ (s : Shared) (H : Hp) (C : Addr) (cl : List (Str × Addr)) (fp : List Addr) (xe : Value → Shared → Prop), BlkPass X ((X.blk s H scope (compEnvC scope cl C X.env) fp).wish xe) W0 → PE ((X.blk s H scope (compEnvC scope cl C X.env) fp).wish xe) elt te) (hs : ∀ x, foldedSetIterable iter X.env x = pure x)
    (h : tLc wi g tt te (own.map (·.2)) σ H Q) :
    wpAny (model X.prog X.w) X.A (comprehension (.ListComp elt [⟨tg, iter, ifs, 0⟩] scope pos) scope X.env pos' (newList []) false (eval iter X.env) none) (EP X pins σ Q) X.xe s := by
  have hfree : ∀ y ∈ scope.names, y.2 = .free → ∃ c, X.env.cells.lookup y.1 = some c := fun y hy e => by
    rcases ok.free y hy e with k | k
    · exact I.ok.has _ (.inl k)
    · exact I.ok.has _ (.inr k)
  refine comp_raise rfl hs (closure_ok hfree) ok.kind (fun y hy e => by rw [ok.uniq y hy, e]) (thn (hi.run pins s σ H _ I h) fun xv s1 hx => thn hx fun itv s2 h2 => ?_)
  obtain ⟨it, fp, tn, J, H2, e, I2, T, st2, f2, q⟩ := h2
  subst e
  refine wpAny_newObj_type (newEnv_comp ?_) (by show 0 ≤ sizeLine; decide)
  generalize hD : s2.heap.objs.size = D
  have hDn : H2 D = none := I2.hok.fresh (Nat.le_of_eq hD)
  obtain ⟨Wt, ⟨m0, w0⟩, turn⟩ := q D hDn
  generalize hs3 : ({ s2 with heap := s2.heap.push { cls := .type "list", data := .seq ([] : List Value).toArray } } : Shared) = s3
  have I3 : Inv X pins σ (upd H2 D (.lst [])) s3 := by
    rw [← hs3]
    refine I2.laid (t' := s2.toks) (fun b o e => Heap.get?_push_of_some _ e) (Nat.le_of_eq hD) ⟨Nat.zero_le _, [], 0, .nil, ?_⟩
    rw [← hD]
    exact Heap.get?_push_size _ rfl
  have h3 : s3.heap = s2.heap.push { cls := .type "list", data := .seq ([] : List Value).toArray } := by rw [← hs3]
  have f3 : ∀ b ∈ fp, FpOk X pins (upd H2 D (.lst [])) b ∧ b < s3.heap.objs.size := fun b hb => by
    obtain ⟨o, e, _⟩ := T.obj _ _ st2 b hb
    have hlt := Heap.lt_size e
    refine ⟨⟨?_, (f2 b hb).2⟩, by rw [h3, Heap.size_push]; exact Nat.lt_succ_of_lt hlt⟩
    rw [upd_ne (by rw [← hD]; exact Nat.ne_of_lt hlt)]
    exact (f2 b hb).1
  have st3 : tn 0 s3.heap := T.keep _ _ _ st2 fun b _ o e => by rw [h3]; exact Heap.get?_push_of_some _ e
  have I4 := block_start I3 ok hN f3
  have pg := hg s3 (upd H2 D (.lst [])) s3.heap.objs.size (cellsFrom (s3.heap.objs.size + 1) scope.names (cloFrom X.env.cells scope.names [])) fp
  have pt := ht s3 (upd H2 D (.lst [])) s3.heap.objs.size (cellsFrom (s3.heap.objs.size + 1) scope.names (cloFrom X.env.cells scope.names [])) fp
  have pe := he s3 (upd H2 D (.lst [])) s3.heap.objs.size (cellsFrom (s3.heap.objs.size + 1) scope.names (cloFrom X.env.cells scope.names [])) fp
  show codeAny _ _ (.compStart (.ListComp elt [⟨tg, iter, ifs, 0⟩] scope pos) 0 (.ref it) (.ref D) (compEnvC scope (cellsFrom (s3.heap.objs.size + 1) scope.names (cloFrom X.env.cells scope.names [])) s3.heap.objs.size X.env)) (cPost (model X.prog X.w) X.A X.xe (EP X pins σ Q) (.ref D) (compEnvC scope (cellsFrom (s3.heap.objs.size + 1) scope.names (cloFrom X.env.cells scope.names [])) s3.heap.objs.size X.env)) { s3 with heap := pushCells (s3.heap.push { cls := .type "dict", data := .dict #[] }) scope.names }
  have nfp : ∀ b ∈ fp, (upd H2 D (.lst [])) b = none := fun b hb => (f3 b hb).1.1
  have cFr : (compEnvC scope (cellsFrom (s3.heap.objs.size + 1) scope.names (cloFrom X.env.cells scope.names [])) s3.heap.objs.size X.env).frame = X.env.frame := rfl
  generalize hce : compEnvC scope (cellsFrom (s3.heap.objs.size + 1) scope.names (cloFrom X.env.cells scope.names [])) s3.heap.objs.size X.env = ce at I4 pg pt pe cFr ⊢
  have cL : ce.locals = s3.heap.objs.size := by subst hce; rfl
  generalize hH3 : upd H2 D (.lst []) = H3 at I3 I4 pg pt pe w0 nfp f3
  generalize hs4 : ({ s3 with heap := pushCells (s3.heap.push { cls := .type "dict", data := .dict #[] }) scope.names } : Shared) = s4 at I4 ⊢
  have st4 : tn 0 s4.heap := T.keep _ _ _ st3 fun b _ o e => by rw [← hs4]; exact pushCells_keeps _ _ _ _ (Heap.get?_push_of_some _ e)
  have stat : ∀ {σ' : L2.St} {H' : Hp} {s' : Shared}, Inv (X.blk s3 H3 scope ce fp) [] σ' H' s' → (∀ b ∈ fp, H' b = none) → ∀ b ∈ fp, FpOk (X.blk s3 H3 scope ce fp) [] H' b := fun {σ' H' s'} I' hn b hb =>
    ⟨hn b hb, (I'.ok.exf b hb).1, I'.ok.exfs b hb, .inl hb, fun x c e => (I'.ok.exf b hb).2 x c e, fun p hp => absurd (show p ∈ ([] : List (Addr × Obj)) ++ [] from hp) (by simp)⟩
  -- back in the def's context
  have back : ∀ {pn : List (Addr × Obj)} {σ' : L2.St} {H' : Hp} {s' : Shared}, Inv (X.blk s3 H3 scope ce fp) pn σ' H' s' → Inv X pins σ H' s' ∧ (∃ m, s'.heap.Ns s3.heap.objs.size m) ∧ FpOk X pins H' s3.heap.objs.size := fun {pn σ' H' s'} I6 => by
    have nC : H' s3.heap.objs.size = none := by
      have z : H' ce.locals = none := I6.free
      rw [cL] at z
      exact z
    obtain ⟨m, hn, _⟩ := I6.loc
    have hn : s'.heap.Ns ce.locals m := hn
    rw [cL] at hn
    exact ⟨I3.call' (ch := fp) I6.os I6.base I6.hok I6.bare fun b hb => ⟨(f3 b hb).1.2.2.2.1, (f3 b hb).1.2.1, (f3 b hb).1.2.2.2.2.1, (f3 b hb).1.2.2.2.2.2⟩, ⟨m, hn⟩, I3.fpOk (Nat.le_refl _) nC⟩
  have pass : BlkPass X ((X.blk s3 H3 scope ce fp).wish (notedBy (model X.prog X.w) X.A ce fun e s' => cPost (model X.prog X.w) X.A X.xe (EP X pins σ Q) (.ref D) ce (.error e) s')) W0 := fun σ' pn H' s' e s'' I' c => by
    obtain ⟨I7, ⟨m, hn⟩, fk⟩ := back I'.unwish
    refine block_out (W := fun c d _ H => W0 c d H) I7 tk hst hfm cFr cL hn fk (fun z => ?_) c
    rcases List.mem_cons.mp (I7.stkSub _ z) with z | z
    · exact fk.2.1 z
    · exact fk.2.2.1 z
  have pe := pe _ pass
  have loop : codeAny (model X.prog X.w) X.A (.compLoop (.ListComp elt [⟨tg, iter, ifs, 0⟩] scope pos) 0 (.ref it) (.ref D) ce) (cPost (model X.prog X.w) X.A X.xe (EP X pins σ Q) (.ref D) ce) s4 := by
    refine compLoop_any (fun n s' => ∃ i H', Inv (X.blk s3 H3 scope ce fp) [] (wipe σ (own.map (·.2))) H' s' ∧ tn i s'.heap ∧ (∀ b ∈ fp, H' b = none) ∧ Wt i n H') ?_ m0 ⟨0, H3, I4, st4, nfp, w0⟩
    rintro n s5 ⟨i, H5, I5, st5, n5, w5⟩
    rcases turn i n H5 w5 with ⟨stop, qq⟩ | ⟨go, Nx, hNx, step⟩
    · have td := T.done (X.blk s3 H3 scope ce fp) rfl rfl rfl hc i [] s5 _ H5 (fun _ _ => False) I5 (stat I5 n5) st5 stop
      refine thnF td fun r s6 ⟨hr, I6⟩ => ?_
      subst hr
      obtain ⟨I7, ⟨m, hn⟩, fk⟩ := back I6
      obtain ⟨f0, f1, f2', f3', f4, f5⟩ := fk
      refine ⟨m, by rw [cL]; exact hn, fun h'' sb => ?_⟩
      rw [cL] at sb
      exact ⟨.ref D, H5, I7.turned (t' := s6.toks) (fun b o hb e => (sb.2 b hb).trans e) f0 f1 f3' f4 f5, rfl, qq⟩
    · have ti := T.item (X.blk s3 H3 scope ce fp) rfl rfl rfl hc i [] s5 _ H5 (fun _ _ => False) I5 (stat I5 n5) st5 go
      refine thnF ti fun r s6 ⟨u, hr, h6⟩ => ?_
      subst hr
      refine thnF h6 fun _ s7 ⟨x, H7, I7, r7, y7, st7, n7⟩ => ?_
      have I7' := I7.pinned (stat I7 n7) (T.obj _ _ st7)
      refine thnF (pg.run _ s7 _ H7 x u _ I7' r7 (step x H7 y7)) fun _ s8 ⟨σ8, H8, I8, hw8, q8⟩ => ?_
      refine thnF (pt.run _ s8 σ8 H8 _ I8 q8) fun b s9 ⟨H9, I9, q9⟩ => ?_
      have fin : ∀ {s' : Shared} {H' : Hp}, Inv (X.blk s3 H3 scope ce fp) ([] ++ pinsAt fp s7.heap) σ8 H' s' → Nx H' → ∃ m, m < n ∧ ∃ i H', Inv (X.blk s3 H3 scope ce fp) [] (wipe σ (own.map (·.2))) H' s' ∧ tn i s'.heap ∧ (∀ b ∈ fp, H' b = none) ∧ Wt i m H' := fun {s' H'} I' nx => by
        obtain ⟨m', hm, w'⟩ := hNx H' nx
        have pin' : ∀ b ∈ fp, ∀ o, s7.heap.get? b = some o → s'.heap.get? b = some o ∧ H' b = none := fun b hb o e =>
          let z := I'.pin (b, o) (List.mem_append_right _ (List.mem_append_right _ (mem_pinsAt hb e)))
          ⟨z.1, z.2.1⟩
        have hl : (wipe σ (own.map (·.2))).length = σ8.length := by rw [← hw8, wipe_length]
        refine ⟨m', hm, i + 1, H', (I'.unpinned (pins := [])).weak hl (fun j v e => ?_), T.keep _ _ _ st7 fun b hb o e => (pin' b hb o e).1, fun b hb => ?_, w'⟩
        · rw [← hw8] at e
          exact (wipe_some e).1
        · obtain ⟨o, e, _⟩ := T.obj _ _ st7 b hb
          exact (pin' b hb o e).2
      cases b with
      | false =>
        simp only [Bool.false_eq_true, if_false] at q9 ⊢
        exact fin I9 q9
      | true =>
        simp only [if_true] at q9 ⊢
        refine wpAny_mono (pe.run _ s9 σ8 H9 _ (I9.wish _) q9) (fun z s10 hz => ?_) fun e s10 z => z
        obtain ⟨yv, H10, I10, r10, acc, hD10, hz10, nx⟩ := hz
        exact app_ok (X := X.blk s3 H3 scope ce fp) I10.unwish hD10 hz10 r10 fun s11 I11 => fin I11 nx
  exact codeAny_compStart_list loop (T.self X.A 0 _ _ _ st4 loop)
end
/-! ### the same with data -/
def rLcL (ρ : Ev) (g : GF) (t : BF) (f : EF) (r : RF) : List D → Option Bool
  | [] => none
  | d :: ds => (g d ρ).bind fun ρ1 => (t ρ1).bind fun b => if b = true then (match r ρ1 with
    | some x => some x
    | none => (f ρ1).bind fun _ => rLcL ρ g t f r ds) else rLcL ρ g t f r ds
def rLc (it : LF) (vs : List Nat) (g : GF) (t : BF) (f : EF) (r : RF) : RF := fun ρ => (it ρ).bind fun ds => if ds.length ≤ lim then rLcL (wipeE ρ vs) g t f r ds else none
section
variable {X : Cx} {M : Mem} {ecl : EL} {tg e iter elt : Expr} {pos : Pos} {ifs : List Expr} {W0 : XK}
theorem lcX_read (hM : MemOk M) (hW : MemW M) {it : LF} {g : GF} {t : BF} {f : EF} {r : RF} {vs ws : List Nat} (hv : ∀ v ∈ vs, v ∈ ws) {σ : L2.St} {H : Hp} {Q : VK} (q : tR X.K M ecl (fun c d _ H => W0 c d H) (rLc it ws g t f r) σ H Q) :
    tLc (tI0 X.K M it) (tG X.K M g vs) (tT X.K M t) (fun σ H Q => tE X.K M f σ H Q ∨ tR X.K M ecl (fun c d _ H => W0 c d H) r σ H Q) ws σ H Q := by
  obtain ⟨H0, av0, av, ρ, v, c, e, post⟩ := q
  obtain ⟨ds, e1, e⟩ := bind_some e
  split at e
  · rename_i hlim
    refine ⟨H0, av0, av, ρ, ds, c, e1, fun J H1 k1 wk D hD => ?_⟩
    have c1 := c.mono k1
    refine ⟨fun i m H' => m = ds.length - i ∧ i ≤ ds.length ∧ Kp M noA H1 H' ∧ ∃ acc, H' D = some (.lst acc) ∧ acc.length ≤ i ∧ rLcL (wipeE ρ ws) g t f r (ds.drop i) = some v,
      ⟨ds.length, by simp, Nat.zero_le _, Kp.new hM hD, [], upd_same, Nat.le_refl _, by simpa using e⟩, ?_⟩
    rintro i m H' ⟨rfl, hi, k2, acc, hA, hl, e2⟩
    have nd : ∀ a, andA av D a → av a ∨ H1 a = none := andA_new hD
    have c2 : Cor X.K M H0 av0 av H' σ ρ := c1.mono k2
    have cD : Cor X.K M H0 av0 (andA av D) H' (L2.wipe σ ws) (wipeE ρ ws) := by
      refine Cor.wipe ⟨c2.kp, fun a z => ?_, fun a z => .inl (c2.sub a z), c2.len, fun j s g => ?_, c2.sep⟩ ws
      · rcases z with z | z
        · exact c2.dom a z
        · rw [z, hA]; exact fun q => nomatch q
      · obtain ⟨x, g1, o⟩ := c1.slot j s g
        refine ⟨x, g1, ?_⟩
        cases s with
        | no => trivial
        | va d => obtain ⟨v, e, b⟩ := o; exact ⟨v, e, (b.weak nd).mono k2.of⟩
        | ow us => obtain ⟨p, ys, e, h1, h2, h3, h4, b⟩ := o; exact ⟨p, ys, e, .inl h1, h2, h3, k2.lst _ _ (fun z => z) h4, (b.weak nd).mono k2.of⟩
    have w := wk i (andA av D) H' nd cD.dom k2
    cases g1 : ds[i]? with
    | none =>
      have : ds.drop i = [] := List.drop_eq_nil_of_le (List.getElem?_eq_none_iff.mp g1)
      rw [this] at e2
      cases e2
    | some d =>
      obtain ⟨hlt, hd⟩ := List.getElem?_eq_some_iff.mp g1
      have hdr : ds.drop i = d :: ds.drop (i + 1) := by rw [List.drop_eq_getElem_cons hlt, hd]
      rw [hdr] at e2
      obtain ⟨ρ1, e4, e2⟩ := bind_some e2
      obtain ⟨b, e5, e2⟩ := bind_some e2
      refine .inr ⟨(w.1 d g1).1, fun H'' => i + 1 ≤ ds.length ∧ Kp M noA H1 H'' ∧ ∃ acc, H'' D = some (.lst acc) ∧ acc.length ≤ i + 1 ∧ rLcL (wipeE ρ ws) g t f r (ds.drop (i + 1)) = some v, fun H'' h => ⟨ds.length - (i + 1), by omega, rfl, h⟩, fun x H3 y => ?_⟩
      obtain ⟨k3, b3⟩ := (w.1 d g1).2 x H3 y
      refine ⟨H0, av0, andA av D, wipeE ρ ws, d, ρ1, cD.mono k3, b3, e4, fun σ4 w4 c4 => ?_⟩
      refine ⟨?_, ?_⟩
      · rw [wipe_sub hv w4, wipe_wipe]
      refine ⟨H0, av0, andA av D, ρ1, b, c4, e5, fun H4 k4 => ?_⟩
      have k24 : Kp M noA H1 H4 := (k2.trans k3).trans k4
      have hA4 : H4 D = some (.lst acc) := k4.lst _ _ (fun z => z) (k3.lst _ _ (fun z => z) hA)
      cases b with
      | false =>
        rw [if_neg (by decide)] at e2
        refine iteF ?_
        exact ⟨hlt, k24, acc, hA4, by omega, e2⟩
      | true =>
        rw [if_pos rfl] at e2
        refine iteT ?_
        split at e2
        · rename_i b' e6
          cases e2
          exact .inr ⟨H0, av0, andA av D, ρ1, v, c4.mono k4, e6, fun H5 k5 => post H5 ((k1.trans k24).trans k5)⟩
        · obtain ⟨z, e6, e2⟩ := bind_some e2
          refine .inl ⟨H0, av0, andA av D, ρ1, z, c4.mono k4, e6, fun v H5 k5 b5 => ?_⟩
          have hA5 : H5 D = some (.lst acc) := k5.lst _ _ (fun z => z) hA4
          have k15 : Kp M noA H1 H5 := k24.trans k5
          have kw : Kp M (andA av D) H5 (upd H5 D (.lst (acc ++ [v]))) := by
            refine ⟨fun p us n e => ?_, fun p o u e => ?_, fun p us e => ?_, fun k p e => hW _ _ _ _ k p hA5 e, fun p e => ?_⟩
            · rw [upd_ne (fun z => n (.inr z))]; exact e
            · rw [upd_ne (ne_of e hA5 (fun z => nomatch z))]; exact e
            · rw [upd_ne (ne_of e hA5 (fun z => nomatch z))]; exact e
            · by_cases z : p = D
              · subst z; rw [upd_same] at e; cases e
              · rw [upd_ne z] at e; exact e
          refine ⟨acc, hA5, ?_, hlt, ?_, acc ++ [v], upd_same, ?_, e2⟩
          · rw [sizeLine_eq]
            have : ds.length ≤ 16777216 := hlim
            omega
          · refine ⟨fun p us n e => ?_, fun p o u e => kw.frz p o u (k15.frz p o u e), fun p us e => kw.tup p us (k15.tup p us e), fun k p e => kw.mm k p (k15.mm k p e), fun p e => k15.dom p (kw.dom p e)⟩
            rw [upd_ne (ne_of_none e hD)]
            exact k15.lst p us n e
          · rw [List.length_append]
            show acc.length + 1 ≤ i + 1
            omega
  · cases e
theorem re_lc {scope : Scope} {own : List (Str × Nat)} {it : LF} {g : GF} {t : BF} {f : EF} {r : RF} {vs ws : List Nat} (hM : MemOk M) (hW : MemW M) (hc : X.calm = true) (hN : X.N.Nodup) (tk : Takes X (fun c d _ H => W0 c d H)) (hst : X.stack = X.env :: X.outer) (hfm : X.env.frame = some X.env.locals)
    (hi : FI0 X M tg iter it) (ok : BlkOk X.N X.env.scope scope own)
    (hg : ∀ (s : Shared) (H : Hp) (C : Addr) (cl : List (Str × Addr)) (fp : List Addr), FG (X.blk s H scope (compEnvC scope cl C X.env) fp) M tg g vs) (ht : ∀ (s : Shared) (H : Hp) (C : Addr) (cl : List (Str × Addr)) (fp : List Addr), FTs (X.blk s H scope (compEnvC scope cl C X.env) fp) M ifs t)
    (he : ∀ (s : Shared) (H : Hp) (C : Addr) (cl : List (Str × Addr)) (fp : List Addr), FE (X.blk s H scope (compEnvC scope cl C X.env) fp) M elt f)
    (heR : ∀ (s : Shared) (H : Hp) (C : Addr) (cl : List (Str × Addr)) (fp : List Addr) (xe : Value → Shared → Prop), BlkPass X ((X.blk s H scope (compEnvC scope cl C X.env) fp).wish xe) W0 → RE ((X.blk s H scope (compEnvC scope cl C X.env) fp).wish xe) M ecl (fun c d _ H => W0 c d H) elt r)
    (hv : ∀ v ∈ vs, v ∈ ws := by decide) (hws : own.map (·.2) = ws := by rfl) (hs : ∀ x, foldedSetIterable iter X.env x = pure x := by intro _; rfl) :
    RE X M ecl (fun c d _ H => W0 c d H) (.ListComp elt [⟨tg, iter, ifs, 0⟩] scope pos) (rLc it ws g t f r) := by
  subst hws
  refine ⟨fun pins s σ H Q I q => ?_⟩
  rw [eval_ListComp]
  exact lcX_core hc hN tk hst hfm I hi ok hg ht (fun s H C cl fp xe hp => PE.or (PE.nox (he s H C cl fp)) (heR s H C cl fp xe hp)) hs (lcX_read hM hW hv q)
/-- a call that raises, in a block -/
theorem re_calP {Y : Cx} {W : WX} {k n j : Nat} {Rf : List D → Option Bool} {x : Str} {p : Pos} {es : List Expr} {ra : LF} (C : CalR Y.prog Y.w Y.K Y.mg Y.base M ecl x k n Rf) (hr : Room j Y.A) (hk : k ≤ j) (hg : Gl Y x) (hx : ∀ σ, PassesAt (L2.CX Y.prog Y.w) Y σ (WE W σ))
    (ha : FA Y M (e :: es) ra) (hn : (e :: es).length = n := by rfl) (hdb : (x == ("__debug__" : Str)) = false := by decide) (he : starEach (e :: es) Y.env = (false, eval e Y.env) :: starEach es Y.env := by rfl) (hpl : (backTo pos (starEach es Y.env)).any (·.1) = false := by rfl) :
    RE Y M ecl W (.Call (.Name x p) (e :: es) [] pos) (rCall Rf (cArgs n ra)) := by
  obtain ⟨f, fd, ps, h1, h2, h3, h4⟩ := C.ex
  refine PE.imp (pe_callS (E := WE W) h4 (hr.mono hk) hg h1 h2 h3 hx ha hdb he hpl) fun σ H Q q => ?_
  obtain ⟨H0, av0, av, ρ, b, c, e, post⟩ := q
  obtain ⟨ds, e1, e⟩ := bind_some e
  obtain ⟨ds', e2, e1⟩ := bind_some e1
  split at e1
  · rename_i hl
    cases e1
    refine ⟨H0, av0, av, ρ, ds, c, e2, fun vs H1 k1 b1 => ?_⟩
    exact ⟨av, ds, b, by rw [b1.length]; exact hl, b1, (c.mono k1).dom, e, fun H' k' => post H' (k1.trans k')⟩
  · cases e1
theorem call_any {T : String} : CallR X (.type T) (fun _ _ _ => False) := fun _ _ _ _ _ _ _ _ _ q => q.elim
/-- T(e), e raising -/
theorem re_ty1 {W : WX} {T : String} {x : Str} {p : Pos} {r : RF} (hg : Gl X x) (hm : X.mg x = none) (hv : bootBuiltins x = some (.type T)) (he : RE X M ecl W e r) (hn : x ≠ "__name__" := by decide) (hdb : (x == ("__debug__" : Str)) = false := by decide)
    (hs : starEach [e] X.env = (false, eval e X.env) :: starEach [] X.env := by rfl) (hpl : (backTo pos (starEach [] X.env)).any (·.1) = false := by rfl) : RE X M ecl W (.Call (.Name x p) [e] [] pos) r :=
  PE.imp (pe_callTy (call_any (T := T)) hg hm hv (pa_cons he (PA.imp (t' := fun _ _ _ => False) pa_nil fun σ H Q q => False.elim q) hs) hn hdb hs hpl) fun σ H Q q => q
end
/-! ### a text once, or not at all -/
def smulD : D → D → Option D
  | .str x, .int k => if k = 1 then some (.str x) else if k = 0 then some (.str Str.empty) else none
  | _, _ => none
theorem o_smul {X : Cx} {M : Mem} : OpR X (binaryOp .Mult) (r2 X.K M smulD) := by
  intro pins s σ H x y v u Q I rx ry hq
  obtain ⟨av, d, e, r, b1, b2, hd, g, k⟩ := hq
  unfold smulD at g
  split at g
  · rename_i z n
    obtain ⟨t, rfl⟩ := (show ∃ t, v = Value.str z t from by have := b1.str_; subst this; exact rx)
    obtain ⟨t2, rfl⟩ := (show ∃ t, u = Value.int n t from by have := b2.int_; subst this; exact ry)
    split at g
    · rename_i h1
      subst h1
      cases g
      refine SB.mul ⟨by decide, fun _ h => by simp at h, fun _ h => by simp at h⟩ fun t' kk => ?_
      exact ⟨.str z, H, I.tok _, ⟨t', by simp [Txt.mul]⟩, k _ _ Kp.refl (.str _)⟩
    · split at g
      · rename_i h1 h0
        subst h0
        cases g
        refine SB.mul ⟨by decide, fun h _ => absurd (by decide) h, fun h _ => absurd (by decide) h⟩ fun t' kk => ?_
        exact ⟨.str Str.empty, H, I.tok _, ⟨t', by simp [Txt.mul]⟩, k _ _ Kp.refl (.str _)⟩
      · cases g
  · cases g
end G

namespace G
open PySem

/-! ## steps of the plain functions -/
section
variable {F G' B : SF} {f h : EF} {r it : LF} {t : BF} {g : GF} {ρ ρ1 ρ2 : Ev} {d e : D} {ds es : List D} {i j : Nat} {b : Bool} {o : Option Out}
theorem seq_nx (h : F ρ = some (.nx ρ1)) : cSeq F G' ρ = G' ρ1 := by unfold cSeq; rw [h]; rfl
theorem seq_rt (h : F ρ = some (.rt d)) : cSeq F G' ρ = some (.rt d) := by unfold cSeq; rw [h]; rfl
theorem seq_ct (h : F ρ = some (.ct ρ1)) : cSeq F G' ρ = some (.ct ρ1) := by unfold cSeq; rw [h]; rfl
theorem seq_bk (h : F ρ = some (.bk ρ1)) : cSeq F G' ρ = some (.bk ρ1) := by unfold cSeq; rw [h]; rfl
theorem seq_set (h : f ρ = some d) : cSeq (cAsg f (gV i)) G' ρ = G' (ρ.set i (.va d)) := by unfold cSeq cAsg gV; rw [h]; rfl
theorem set_nx (h : f ρ = some d) : cAsg f (gV i) ρ = some (.nx (ρ.set i (.va d))) := by unfold cAsg gV; rw [h]; rfl
theorem asg_nx (h : f ρ = some d) (h2 : g d ρ = some ρ1) : cAsg f g ρ = some (.nx ρ1) := by unfold cAsg; rw [h]; show (g d ρ).bind _ = _; rw [h2]; rfl
theorem seq_asg (h : f ρ = some d) (h2 : g d ρ = some ρ1) : cSeq (cAsg f g) G' ρ = G' ρ1 := seq_nx (asg_nx h h2)
theorem seq_own (h : r ρ = some ds) : cSeq (cOwn i r) G' ρ = G' (ρ.set i (.ow ds)) := by unfold cSeq cOwn; rw [h]; rfl
theorem own_nx (h : r ρ = some ds) : cOwn i r ρ = some (.nx (ρ.set i (.ow ds))) := by unfold cOwn; rw [h]; rfl
theorem seq_frz (h : ρ[i]? = some (.ow ds)) : cSeq (cFrz i) G' ρ = G' (ρ.set i (.va (.list ds))) := by unfold cSeq cFrz; rw [h]; rfl
theorem app_nx (h : ρ[i]? = some (.ow ds)) (h2 : f ρ = some d) (h3 : ds.length < lim) : cApp i f ρ = some (.nx (ρ.set i (.ow (ds ++ [d])))) := by
  unfold cApp; rw [h]; show (f ρ).bind _ = _; rw [h2]; exact if_pos h3
theorem ext_nx (h : ρ[i]? = some (.ow ds)) (h2 : f ρ = some (.list es)) (h3 : ds.length + es.length ≤ lim) : cExt i f ρ = some (.nx (ρ.set i (.ow (ds ++ es)))) := by
  unfold cExt; rw [h]; show (f ρ).bind _ = _; rw [h2]; exact if_pos h3
theorem put_nx {kf : EF} {k : Int} (h1 : f ρ = some d) (h : ρ[i]? = some (.ow ds)) (hk : kf ρ = some (.int k)) (h3 : L2.ixN ds.length k = some j) : cPut i f kf ρ = some (.nx (ρ.set i (.ow (ds.set j d)))) := by
  unfold cPut; rw [h1]; show (match ρ[i]? with | some (.ow ds) => _ | _ => _) = _; rw [h]; show (kf ρ).bind _ = _; rw [hk]; show (L2.ixN _ _).bind _ = _; rw [h3]; rfl
theorem ifS_T (h : t ρ = some true) : cIfS t F G' ρ = F ρ := by unfold cIfS; rw [h]; rfl
theorem ifS_F (h : t ρ = some false) : cIfS t F G' ρ = G' ρ := by unfold cIfS; rw [h]; rfl
theorem ret_rt (h : f ρ = some d) : cRet f ρ = some (.rt d) := by unfold cRet; rw [h]; rfl
theorem run_rt {n : Nat} (h : B (startE n ds) = some (.rt d)) : runF n B ds = some d := by unfold runF; rw [h]; rfl
theorem run_nx {n : Nat} (h : B (startE n ds) = some (.nx ρ)) : runF n B ds = some .none := by unfold runF; rw [h]; rfl
theorem for_eq (h : it ρ = some ds) : cFor it g B ρ = forL g B ds ρ := by unfold cFor; rw [h]; rfl
theorem forL_nil : forL g B [] ρ = some (.nx ρ) := rfl
theorem forL_cons (h1 : g d ρ = some ρ1) (h2 : B ρ1 = some (.nx ρ2)) : forL g B (d :: ds) ρ = forL g B ds ρ2 := by
  show (g d ρ).bind _ = _; rw [h1]; show (B ρ1).bind _ = _; rw [h2]; rfl
theorem forL_ct (h1 : g d ρ = some ρ1) (h2 : B ρ1 = some (.ct ρ2)) : forL g B (d :: ds) ρ = forL g B ds ρ2 := by
  show (g d ρ).bind _ = _; rw [h1]; show (B ρ1).bind _ = _; rw [h2]; rfl
theorem forL_rt (h1 : g d ρ = some ρ1) (h2 : B ρ1 = some (.rt e)) : forL g B (d :: ds) ρ = some (.rt e) := by
  show (g d ρ).bind _ = _; rw [h1]; show (B ρ1).bind _ = _; rw [h2]; rfl
theorem forL_bk (h1 : g d ρ = some ρ1) (h2 : B ρ1 = some (.bk ρ2)) : forL g B (d :: ds) ρ = some (.nx ρ2) := by
  show (g d ρ).bind _ = _; rw [h1]; show (B ρ1).bind _ = _; rw [h2]; rfl
theorem while_F {n : Nat} (h : t ρ = some false) : whileN t B (n + 1) ρ = some (.nx ρ) := by show (t ρ).bind _ = _; rw [h]; rfl
theorem while_T {n : Nat} (h : t ρ = some true) (h2 : B ρ = some (.nx ρ1)) : whileN t B (n + 1) ρ = whileN t B n ρ1 := by
  show (t ρ).bind _ = _; rw [h]; show (B ρ).bind _ = _; rw [h2]; rfl
theorem while_bk {n : Nat} (h : t ρ = some true) (h2 : B ρ = some (.bk ρ1)) : whileN t B (n + 1) ρ = some (.nx ρ1) := by
  show (t ρ).bind _ = _; rw [h]; show (B ρ).bind _ = _; rw [h2]; rfl
theorem while_rt {n : Nat} (h : t ρ = some true) (h2 : B ρ = some (.rt d)) : whileN t B (n + 1) ρ = some (.rt d) := by
  show (t ρ).bind _ = _; rw [h]; show (B ρ).bind _ = _; rw [h2]; rfl
/-! ### expressions -/
theorem e1 {g : D → Option D} {o : Option D} (h : f ρ = some d) (hg : g d = o) : c1 g f ρ = o := by unfold c1; rw [h]; exact hg
theorem e2 {g : D → D → Option D} {o : Option D} (h1 : f ρ = some d) (h2 : h ρ = some e) (hg : g d e = o) : c2 g f h ρ = o := by unfold c2; rw [h1]; show (h ρ).bind _ = _; rw [h2]; exact hg
theorem eT {g : D → Option Bool} {o : Option Bool} (h : f ρ = some d) (hg : g d = o) : cT1 g f ρ = o := by unfold cT1; rw [h]; exact hg
theorem eC {g : List D → Option D} {o : Option D} (h : r ρ = some ds) (hg : g ds = o) : cCall g r ρ = o := by unfold cCall; rw [h]; exact hg
theorem eCons (h1 : f ρ = some d) (h2 : r ρ = some ds) : cCons f r ρ = some (d :: ds) := by unfold cCons; rw [h1]; show (r ρ).bind _ = _; rw [h2]; rfl
theorem eArgs {n : Nat} (h : r ρ = some ds) (hl : ds.length = n) : cArgs n r ρ = some ds := by unfold cArgs; rw [h]; exact if_pos hl
theorem eTup (h : r ρ = some ds) (hl : ds.length ≤ 1000) : cTup r ρ = some (.tuple ds) := by unfold cTup; rw [h]; exact if_pos hl
theorem eChk {n : Nat} (h : r ρ = some ds) (hl : ds.length ≤ n) : chk n r ρ = some ds := by unfold chk; rw [h]; exact if_pos hl
theorem eL (h : r ρ = some ds) : cL r ρ = some (.list ds) := by unfold cL; rw [h]; rfl
theorem eLc {vs : List Nat} (h : it ρ = some ds) (hl : ds.length ≤ lim) : cLc it vs g t f ρ = lcL (wipeE ρ vs) g t f ds := by unfold cLc; rw [h]; exact if_pos hl
theorem lc_nil : lcL ρ g t f [] = some [] := rfl
theorem lc_T (h1 : g d ρ = some ρ1) (h2 : t ρ1 = some true) (h3 : f ρ1 = some e) (h4 : lcL ρ g t f ds = some es) : lcL ρ g t f (d :: ds) = some (e :: es) := by
  show (g d ρ).bind _ = _; rw [h1]; show (t ρ1).bind _ = _; rw [h2]; show (f ρ1).bind _ = _; rw [h3]; show (lcL ρ g t f ds).bind _ = _; rw [h4]; rfl
theorem lc_F (h1 : g d ρ = some ρ1) (h2 : t ρ1 = some false) (h4 : lcL ρ g t f ds = some es) : lcL ρ g t f (d :: ds) = some es := by
  show (g d ρ).bind _ = _; rw [h1]; show (t ρ1).bind _ = _; rw [h2]; exact h4
/-- a comprehension over coded items: it filters and maps -/
theorem lc_map {α : Type} {enc : α → D} {out : α → D} {p : α → Bool} : ∀ {l : List α}, (∀ a ∈ l, ∃ ρ1, g (enc a) ρ = some ρ1 ∧ t ρ1 = some (p a) ∧ (p a = true → f ρ1 = some (out a))) → lcL ρ g t f (l.map enc) = some ((l.filter p).map out)
  | [], _ => rfl
  | a :: l, H => by
    obtain ⟨ρ1, h1, h2, h3⟩ := H a List.mem_cons_self
    have ih := lc_map (l := l) fun b hb => H b (List.mem_cons_of_mem _ hb)
    cases hp : p a with
    | true => rw [List.map_cons, lc_T h1 (hp ▸ h2) (h3 hp) ih, List.filter_cons_of_pos hp]; rfl
    | false => rw [List.map_cons, lc_F h1 (hp ▸ h2) ih, List.filter_cons_of_neg (by rw [hp]; decide)]
theorem add_int (a b : Int) : addD (.int a) (.int b) = some (.int (a + b)) := rfl
theorem mul_int {a b : Int} (h : (-(2 ^ 64) < a ∧ a < 2 ^ 64) ∨ (-(2 ^ 64) < b ∧ b < 2 ^ 64)) : mulD (.int a) (.int b) = some (.int (a * b)) := if_pos h
theorem mod_int {a b : Int} (h : 0 < b) : modD (.int a) (.int b) = some (.int (a % b)) := if_pos h
theorem fdiv_int {a b : Int} (h : 0 < b ∧ b < 1073741824) : fdivD (.int a) (.int b) = some (.int (a / b)) := if_pos h
/-! ### in a row -/
theorem s_set (h : f ρ = some d) (k : G' (ρ.set i (.va d)) = o) : cSeq (cAsg f (gV i)) G' ρ = o := (seq_set h).trans k
theorem s_asg (h : f ρ = some d) (h2 : g d ρ = some ρ1) (k : G' ρ1 = o) : cSeq (cAsg f g) G' ρ = o := (seq_asg h h2).trans k
theorem s_own (h : r ρ = some ds) (k : G' (ρ.set i (.ow ds)) = o) : cSeq (cOwn i r) G' ρ = o := (seq_own h).trans k
theorem s_frz (h : ρ[i]? = some (.ow ds)) (k : G' (ρ.set i (.va (.list ds))) = o) : cSeq (cFrz i) G' ρ = o := (seq_frz h).trans k
theorem s_app (h : ρ[i]? = some (.ow ds)) (h2 : f ρ = some d) (h3 : ds.length < lim) (k : G' (ρ.set i (.ow (ds ++ [d]))) = o) : cSeq (cApp i f) G' ρ = o := (seq_nx (app_nx h h2 h3)).trans k
theorem s_ext (h : ρ[i]? = some (.ow ds)) (h2 : f ρ = some (.list es)) (h3 : ds.length + es.length ≤ lim) (k : G' (ρ.set i (.ow (ds ++ es))) = o) : cSeq (cExt i f) G' ρ = o := (seq_nx (ext_nx h h2 h3)).trans k
theorem s_ifT (h : t ρ = some true) (k : cSeq F G' ρ = o) : cSeq (cIfS t F B) G' ρ = o := by unfold cSeq at k ⊢; rw [ifS_T h]; exact k
theorem s_ifF (h : t ρ = some false) (k : cSeq B G' ρ = o) : cSeq (cIfS t F B) G' ρ = o := by unfold cSeq at k ⊢; rw [ifS_F h]; exact k
theorem s_nx (h : F ρ = some (.nx ρ1)) (k : G' ρ1 = o) : cSeq F G' ρ = o := (seq_nx h).trans k
theorem s_next (k : G' ρ = o) : cSeq cNext G' ρ = o := (seq_nx rfl).trans k
theorem s_for (h : it ρ = some ds) (h2 : forL g B ds ρ = some (.nx ρ1)) (k : G' ρ1 = o) : cSeq (cFor it g B) G' ρ = o := (seq_nx ((for_eq h).trans h2)).trans k
theorem s_forR (h : it ρ = some ds) (h2 : forL g B ds ρ = some (.rt d)) (k : some (.rt d) = o) : cSeq (cFor it g B) G' ρ = o := (seq_rt ((for_eq h).trans h2)).trans k
theorem s_ret (h : f ρ = some d) (k : some (.rt d) = o) : cSeq (cRet f) G' ρ = o := (seq_rt (ret_rt h)).trans k
theorem r_ret (h : f ρ = some d) (k : some (.rt d) = o) : cRet f ρ = o := (ret_rt h).trans k
theorem i_T (h : t ρ = some true) (k : F ρ = o) : cIfS t F B ρ = o := (ifS_T h).trans k
theorem i_F (h : t ρ = some false) (k : B ρ = o) : cIfS t F B ρ = o := (ifS_F h).trans k
theorem and_T {u : BF} {b : Bool} (h : t ρ = some true) (k : u ρ = some b) : cAnd t u ρ = some b := by unfold cAnd; rw [h]; exact k
theorem and_F {u : BF} (h : t ρ = some false) : cAnd t u ρ = some false := by unfold cAnd; rw [h]; rfl
theorem or_F {u : BF} {b : Bool} (h : t ρ = some false) (k : u ρ = some b) : cOr t u ρ = some b := by unfold cOr; rw [h]; exact k
theorem or_T {u : BF} (h : t ρ = some true) : cOr t u ρ = some true := by unfold cOr; rw [h]; rfl
theorem and_2 {u : BF} {b c : Bool} (h : t ρ = some b) (k : u ρ = some c) : cAnd t u ρ = some (b && c) := by
  cases b with
  | true => exact and_T h k
  | false => exact and_F h
theorem or_2 {u : BF} {b c : Bool} (h : t ρ = some b) (k : u ρ = some c) : cOr t u ρ = some (b || c) := by
  cases b with
  | true => exact or_T h
  | false => exact or_F h k
theorem not_1 {b : Bool} (h : t ρ = some b) : cNot t ρ = some (!b) := by unfold cNot; rw [h]; rfl
theorem andV_T {o : Option D} (h1 : f ρ = some (.bool true)) (k : h ρ = o) : cAndV f h ρ = o := by unfold cAndV; rw [h1]; exact k
theorem andV_F (h1 : f ρ = some (.bool false)) : cAndV f h ρ = some (.bool false) := by unfold cAndV; rw [h1]; rfl
theorem orV_F {o : Option D} (h1 : f ρ = some (.bool false)) (k : h ρ = o) : cOrV f h ρ = o := by unfold cOrV; rw [h1]; exact k
theorem orV_T (h1 : f ρ = some (.bool true)) : cOrV f h ρ = some (.bool true) := by unfold cOrV; rw [h1]; rfl
theorem andV_2 {b c : Bool} (h1 : f ρ = some (.bool b)) (k : h ρ = some (.bool c)) : cAndV f h ρ = some (.bool (b && c)) := by
  cases b with
  | true => exact andV_T h1 k
  | false => exact andV_F h1
theorem orV_2 {b c : Bool} (h1 : f ρ = some (.bool b)) (k : h ρ = some (.bool c)) : cOrV f h ρ = some (.bool (b || c)) := by
  cases b with
  | true => exact orV_T h1
  | false => exact orV_F h1 k
theorem if_e {b : Bool} {x : D} (h0 : t ρ = some b) (h1 : b = true → f ρ = some d) (h2 : b = false → h ρ = some e) : cIf t f h ρ = some (if b then d else e) := by
  unfold cIf; rw [h0]
  cases b with
  | true => exact h1 rfl
  | false => exact h2 rfl
theorem eSl {l u : OF} {lo hi : Option Int} {o : Option D} (h1 : f ρ = some d) (h2 : l ρ = some lo) (h3 : u ρ = some hi) (k : slD d lo hi = o) : cSl f l u ρ = o := by
  unfold cSl; rw [h1]; show (l ρ).bind _ = _; rw [h2]; show (u ρ).bind _ = _; rw [h3]; exact k
theorem ePt {i : Int} (h1 : f ρ = some (.int i)) : cPt f ρ = some (some i) := by unfold cPt; rw [h1]; rfl
theorem eIt (h1 : f ρ = some (.list ds)) : cIt f ρ = some ds := by unfold cIt; rw [h1]; rfl
theorem eItT (h1 : f ρ = some (.tuple ds)) : cItT f ρ = some ds := by unfold cItT; rw [h1]; rfl
theorem eRg1 {n : Int} (h1 : f ρ = some (.int n)) (hn : -(2 ^ 62) ≤ n ∧ n < 2 ^ 62) : cRg1 f ρ = some (rgL 0 n.toNat) := by unfold cRg1; rw [h1]; exact if_pos hn
theorem eRg2 {m n : Int} (h1 : f ρ = some (.int m)) (h2 : h ρ = some (.int n)) (hn : -(2 ^ 62) ≤ m ∧ m < 2 ^ 62 ∧ -(2 ^ 62) ≤ n ∧ n < 2 ^ 62) : cRg2 f h ρ = some (rgL m (n - m).toNat) := by
  unfold cRg2; rw [h1]; show (h ρ).bind _ = _; rw [h2]; exact if_pos hn
theorem par_nx {i j : Nat} (h : r ρ = some [d, e]) (k : (ρ.set i (.va d)).set j (.va e) = ρ1) : cPar i j r ρ = some (.nx ρ1) := by
  subst k; unfold cPar; rw [h]; rfl
theorem eCat {fs : List D} (h1 : f ρ = some (.list ds)) (h2 : h ρ = some (.list es)) (hl : ds.length + es.length ≤ lim) (e : fs = ds ++ es) : cCat f h ρ = some fs := by
  subst e; unfold cCat; rw [h1]; show (h ρ).bind _ = _; rw [h2]; exact if_pos hl
theorem eRg3 {l : EF} {m n : Int} (h1 : f ρ = some (.int m)) (h2 : h ρ = some (.int n)) (h3 : l ρ = some (.int (-1))) (hn : -(2 ^ 62) ≤ m ∧ m < 2 ^ 62 ∧ -(2 ^ 62) ≤ n ∧ n < 2 ^ 62) : cRg3 f h l ρ = some (rcL m (-1) (m - n).toNat) := by
  unfold cRg3; rw [h1]; show (h ρ).bind _ = _; rw [h2]; show (l ρ).bind _ = _; rw [h3]; exact if_pos ⟨hn.1, hn.2.1, hn.2.2.1, hn.2.2.2, rfl⟩
theorem eEn (h1 : f ρ = some (.list ds)) : cEn f ρ = some (enL 0 ds) := by unfold cEn; rw [h1]; rfl
theorem eq_int (a b : Int) : eqD (.int a) (.int b) = some (.bool (decide (a = b))) := by
  show (if SeqAt.shaped (.int a) = true ∧ SeqAt.shaped (.int b) = true then some (PyData.bool (a == b)) else none) = _
  rw [if_pos ⟨rfl, rfl⟩, Bool.beq_eq_decide_eq]
theorem ne_int (a b : Int) : neD (.int a) (.int b) = some (.bool (!decide (a = b))) := by
  show (if SeqAt.shaped (.int a) = true ∧ SeqAt.shaped (.int b) = true then some (PyData.bool (!(a == b))) else none) = _
  rw [if_pos ⟨rfl, rfl⟩, Bool.beq_eq_decide_eq]
end
end G

namespace LW
open PySem PySem.Spec PyProof.Rows L2 G
/-! ### the text -/
def topS (i : Nat) : Stmt := PySem.Challenge.pw_pegrows_k04_whole_nothing_else_read.main.body.getD i (.Pass ⟨0, 0, 0, 0⟩)
section
variable {P : Program} {w : World} {K : PySem.W.Frag} {mg : Str → Option Value} {base : Heap} {M : Mem}
abbrev s_is_whole : Stmt := topS 7
abbrev N_is_whole : List Str := ["thing", "low", "high"]
theorem sc_is_whole : FnScope N_is_whole ["thing", "low", "high"] (defScope s_is_whole) := ⟨rfl, rfl, rfl, by decide +kernel, rfl, by decide +kernel, by decide +kernel⟩
def B_is_whole : SF := (cRet (cAndV (c1 (isiD "int") (cV 0)) (cAndV (c1 notD (c1 (isiD "bool") (cV 0))) (cChn leD leD (cV 1) (cV 0) (cV 2)))))
@[irreducible] def F_is_whole : List D → Option D := runF 3 B_is_whole
theorem F_is_whole_def : F_is_whole = runF 3 B_is_whole := by unfold F_is_whole; rfl
theorem ok_is_whole (hM : MemOk M) (hW : MemW M) (hB : Bt mg) {f : Addr} {fd : FuncData} (Fn : Fun K "is_whole" "is_whole" s_is_whole f fd) : FnOk P w K mg base CX0 1 f fd ["thing", "low", "high"] (spF K M 3 F_is_whole) :=
  F_is_whole_def ▸ fun_ok Fn sc_is_whole fun cdv A outer s H E hr => (fss_one (fs_ret (fe_and (fe_isi (Tn := "int") (by rfl) hB.isinstance (by rfl) hB.int (by rfl) (fk_of (fe_var 0 (pv 0)))) (fe_and (fe_not (fe_isi (Tn := "bool") (by rfl) hB.isinstance (by rfl) hB.bool (by rfl) (fk_of (fe_var 0 (pv 0))))) (fe_one (fe_chn o_le o_le (fk_of (fe_var 1 (pv 1))) (fk_of (fe_var 0 (pv 0))) (fk_of (fe_var 2 (pv 2)))))))))
abbrev s_is_card : Stmt := topS 8
abbrev N_is_card : List Str := ["thing"]
theorem sc_is_card : FnScope N_is_card ["thing"] (defScope s_is_card) := ⟨rfl, rfl, rfl, by decide +kernel, rfl, by decide +kernel, by decide +kernel⟩
def B_is_card : SF := (cSeq (cIfS (cOr (cNot (cT1 asB (c1 (isiD "tuple") (cV 0)))) (cT1 asB (c2 neD (cCall lenD (cCons (cV 0) cNil)) (cC (.int 2))))) (cRet (cC (.bool false))) cNext)
  (cRet (cAndV (cCall F_is_whole (cArgs 3 (cCons (c2 ixD (cV 0) (cC (.int 0))) (cCons (cC (.int 1)) (cCons (cCall lenD (cCons (cC (.str "a23456789tjqk")) cNil)) cNil))))) (cCall F_is_whole (cArgs 3 (cCons (c2 ixD (cV 0) (cC (.int 1))) (cCons (cC (.int 0)) (cCons (c2 subD (cCall lenD (cCons (cC (.str "cdhs")) cNil)) (cC (.int 1))) cNil))))))))
@[irreducible] def F_is_card : List D → Option D := runF 1 B_is_card
theorem F_is_card_def : F_is_card = runF 1 B_is_card := by unfold F_is_card; rfl
theorem ok_is_card (hM : MemOk M) (hW : MemW M) (hB : Bt mg) (g_SUITS : ∃ t, mg "SUITS" = some (.str "cdhs" t)) (g_RANKS : ∃ t, mg "RANKS" = some (.str "a23456789tjqk" t)) (C_is_whole : Cal P w K mg base M "is_whole" 1 3 F_is_whole) {f : Addr} {fd : FuncData} (Fn : Fun K "is_card" "is_card" s_is_card f fd) : FnOk P w K mg base CX0 2 f fd ["thing"] (spF K M 1 F_is_card) :=
  F_is_card_def ▸ fun_ok Fn sc_is_card fun cdv A outer s H E hr => (fss_cons (fs_if (fw_pt (fw_or (ft_not (ft_val (fe_isi (Tn := "tuple") (by rfl) hB.isinstance (by rfl) hB.tuple (by rfl) (fk_of (fe_var 0 (pv 0)))))) (fw_or1 (ft_cmp (o_ne (u64 hr)) (fk_of (fe_callB c_len (by rfl) hB.len (by rfl) (fak_cons (fk_of (fe_var 0 (pv 0))) fak_nil))) (fk_of fe_int) (by rfl))))) (fss_one (fs_ret fe_bl)) fss_nil)
      (fss_one (fs_ret (fe_and (fe_cal C_is_whole hr (by decide) (by rfl) (fa_cons (fe_ix o_ix (fk_of (fe_var 0 (pv 0))) (fk_of fe_int) (fun _ _ => rfl)) (fa_cons fe_int (fa_cons (fe_callB c_len (by rfl) hB.len (by rfl) (fak_cons (fk_of (fe_gstr (by rfl) g_RANKS)) fak_nil)) fa_nil)))) (fe_one (fe_cal C_is_whole hr (by decide) (by rfl) (fa_cons (fe_ix o_ix (fk_of (fe_var 0 (pv 0))) (fk_of fe_int) (fun _ _ => rfl)) (fa_cons fe_int (fa_cons (fe_op o_sub (fk_of (fe_callB c_len (by rfl) hB.len (by rfl) (fak_cons (fk_of (fe_gstr (by rfl) g_SUITS)) fak_nil))) (fk_of fe_int)) fa_nil)))))))))
abbrev s_card_text : Stmt := topS 9
abbrev N_card_text : List Str := ["card"]
theorem sc_card_text : FnScope N_card_text ["card"] (defScope s_card_text) := ⟨rfl, rfl, rfl, by decide +kernel, rfl, by decide +kernel, by decide +kernel⟩
def B_card_text : SF := (cRet (c2 addD (c2 ixD (cC (.str "a23456789tjqk")) (c2 subD (c2 ixD (cV 0) (cC (.int 0))) (cC (.int 1)))) (c2 ixD (cC (.str "cdhs")) (c2 ixD (cV 0) (cC (.int 1))))))
@[irreducible] def F_card_text : List D → Option D := runF 1 B_card_text
theorem F_card_text_def : F_card_text = runF 1 B_card_text := by unfold F_card_text; rfl
theorem ok_card_text (hM : MemOk M) (hW : MemW M) (hB : Bt mg) (g_RANKS : ∃ t, mg "RANKS" = some (.str "a23456789tjqk" t)) (g_SUITS : ∃ t, mg "SUITS" = some (.str "cdhs" t)) {f : Addr} {fd : FuncData} (Fn : Fun K "card_text" "card_text" s_card_text f fd) : FnOk P w K mg base CX0 1 f fd ["card"] (spF K M 1 F_card_text) :=
  F_card_text_def ▸ fun_ok Fn sc_card_text fun cdv A outer s H E hr => (fss_one (fs_ret (fe_op (o_add hM) (fk_of (fe_ix o_ix (fk_of (fe_gstr (by rfl) g_RANKS)) (fk_of (fe_op o_sub (fk_of (fe_ix o_ix (fk_of (fe_var 0 (pv 0))) (fk_of fe_int) (fun _ _ => rfl))) (fk_of fe_int))) (fun _ _ => rfl))) (fk_of (fe_ix o_ix (fk_of (fe_gstr (by rfl) g_SUITS)) (fk_of (fe_ix o_ix (fk_of (fe_var 0 (pv 0))) (fk_of fe_int) (fun _ _ => rfl))) (fun _ _ => rfl))))))
abbrev s_written : Stmt := topS 10
abbrev N_written : List Str := ["cards", "card"]
theorem sc_written : FnScope N_written ["cards"] (defScope s_written) := ⟨rfl, rfl, rfl, by decide +kernel, rfl, by decide +kernel, by decide +kernel⟩
def B_written : SF := (cSeq (cIfS (cT1 asB (c2 eqD (cCall lenD (cCons (cV 0) cNil)) (cC (.int 0)))) (cRet (cC (.str "-"))) cNext)
  (cRet (c2 joinD (cC (.str " ")) (cL (cLc (cItT (cV 0)) [1] (gV 1) cYes (cCall F_card_text (cArgs 1 (cCons (cV 1) cNil))))))))
@[irreducible] def F_written : List D → Option D := runF 2 B_written
theorem F_written_def : F_written = runF 2 B_written := by unfold F_written; rfl
theorem ok_written (hM : MemOk M) (hW : MemW M) (hB : Bt mg) (C_card_text : Cal P w K mg base M "card_text" 1 1 F_card_text) {f : Addr} {fd : FuncData} (Fn : Fun K "written" "written" s_written f fd) : FnOk P w K mg base CX0 2 f fd ["cards"] (spF K M 1 F_written) :=
  F_written_def ▸ fun_ok Fn sc_written fun cdv A outer s H E hr => (fss_cons (fs_if (ft_cmp (o_eq (u64 hr)) (fk_of (fe_callB c_len (by rfl) hB.len (by rfl) (fak_cons (fk_of (fe_var 0 (pv 0))) fak_nil))) (fk_of fe_int) (by rfl)) (fss_one (fs_ret fe_str)) fss_nil)
      (fss_one (fs_ret (fe_join (fk_of fe_str) (fk_of (fe_new (fn_lc hM hW rfl sc_written.nd (FI.zero (fi_tup (fe_var 0 (pv 0)))) (blkOk_by (own := [("card", 1)]) (N := N_written) (sc := defScope s_written) (by decide +kernel)) (fun _ _ _ _ _ => (fg_name (pg_name (i := 1) sc_written.nd rfl (by first | exact Or.inl rfl | exact Or.inr rfl)))) (fun _ _ _ _ _ => fts_nil) (fun _ _ _ _ _ => (fe_cal C_card_text hr (by decide) (by rfl) (fa_cons (fe_var 1 (pv 1)) fa_nil))))))))))
abbrev s_card_of : Stmt := topS 11
abbrev N_card_of : List Str := ["word"]
theorem sc_card_of : FnScope N_card_of ["word"] (defScope s_card_of) := ⟨rfl, rfl, rfl, by decide +kernel, rfl, by decide +kernel, by decide +kernel⟩
def B_card_of : SF := (cSeq (cIfS (cOr (cT1 asB (c2 neD (cCall lenD (cCons (cV 0) cNil)) (cC (.int 2)))) (cOr (cT1 asB (c2 ninSD (c2 ixD (cV 0) (cC (.int 0))) (cC (.str "a23456789tjqk")))) (cT1 asB (c2 ninSD (c2 ixD (cV 0) (cC (.int 1))) (cC (.str "cdhs")))))) cNever cNext)
  (cRet (cTup (cCons (c2 addD (c2 sindexD (cC (.str "a23456789tjqk")) (c2 ixD (cV 0) (cC (.int 0)))) (cC (.int 1))) (cCons (c2 sindexD (cC (.str "cdhs")) (c2 ixD (cV 0) (cC (.int 1)))) cNil)))))
@[irreducible] def F_card_of : List D → Option D := runF 1 B_card_of
theorem F_card_of_def : F_card_of = runF 1 B_card_of := by unfold F_card_of; rfl
theorem ok_card_of (hM : MemOk M) (hW : MemW M) (hB : Bt mg) (g_SUITS : ∃ t, mg "SUITS" = some (.str "cdhs" t)) (g_RANKS : ∃ t, mg "RANKS" = some (.str "a23456789tjqk" t)) {f : Addr} {fd : FuncData} (Fn : Fun K "card_of" "card_of" s_card_of f fd) : FnOk P w K mg base CX0 1 f fd ["word"] (spF K M 1 F_card_of) :=
  F_card_of_def ▸ fun_ok Fn sc_card_of fun cdv A outer s H E hr => (fss_cons (fs_if (fw_pt (fw_or (ft_cmp (o_ne (u64 hr)) (fk_of (fe_callB c_len (by rfl) hB.len (by rfl) (fak_cons (fk_of (fe_var 0 (pv 0))) fak_nil))) (fk_of fe_int) (by rfl)) (fw_or (ft_cmp o_ninS (fk_of (fe_ix o_ix (fk_of (fe_var 0 (pv 0))) (fk_of fe_int) (fun _ _ => rfl))) (fk_of (fe_gstr (by rfl) g_RANKS)) (by rfl)) (fw_or1 (ft_cmp o_ninS (fk_of (fe_ix o_ix (fk_of (fe_var 0 (pv 0))) (fk_of fe_int) (fun _ _ => rfl))) (fk_of (fe_gstr (by rfl) g_SUITS)) (by rfl)))))) (fss_one fs_never) fss_nil)
      (fss_one (fs_ret (fe_tup hM (fa_cons (fe_op (o_add hM) (fk_of (fe_sindex (fk_of (fe_gstr (by rfl) g_RANKS)) (fk_of (fe_ix o_ix (fk_of (fe_var 0 (pv 0))) (fk_of fe_int) (fun _ _ => rfl))))) (fk_of fe_int)) (fa_cons (fe_sindex (fk_of (fe_gstr (by rfl) g_SUITS)) (fk_of (fe_ix o_ix (fk_of (fe_var 0 (pv 0))) (fk_of fe_int) (fun _ _ => rfl)))) fa_nil))))))
def RB_card_of : RF := (rIf (cOr (cT1 asB (c2 neD (cCall lenD (cCons (cV 0) cNil)) (cC (.int 2)))) (cOr (cT1 asB (c2 ninSD (c2 ixD (cV 0) (cC (.int 0))) (cC (.str "a23456789tjqk")))) (cT1 asB (c2 ninSD (c2 ixD (cV 0) (cC (.int 1))) (cC (.str "cdhs")))))) (rIt false) rNo)
@[irreducible] def R_card_of : List D → Option Bool := fun ds => RB_card_of (startE 1 ds)
theorem R_card_of_def : R_card_of = fun ds => RB_card_of (startE 1 ds) := by unfold R_card_of; rfl
theorem okR_card_of {CT CC : Addr} (hM : MemOk M) (hW : MemW M) (hB : Bt mg) (X_NoText : ExC K mg "NoText" CT) (g_SUITS : ∃ t, mg "SUITS" = some (.str "cdhs" t)) (g_RANKS : ∃ t, mg "RANKS" = some (.str "a23456789tjqk" t)) {f : Addr} {fd : FuncData} (Fn : Fun K "card_of" "card_of" s_card_of f fd) : FnOk P w K mg base (L2.CX P w) 1 f fd ["word"] (spR K M (eclO CT CC) 1 R_card_of) :=
  R_card_of_def ▸ funR Fn sc_card_of fun cdv A outer s H E hr => (rss_hd (rs_if (fw_pt (fw_or (ft_cmp (o_ne (u64 hr)) (fk_of (fe_callB c_len (by rfl) hB.len (by rfl) (fak_cons (fk_of (fe_var 0 (pv 0))) fak_nil))) (fk_of fe_int) (by rfl)) (fw_or (ft_cmp o_ninS (fk_of (fe_ix o_ix (fk_of (fe_var 0 (pv 0))) (fk_of fe_int) (fun _ _ => rfl))) (fk_of (fe_gstr (by rfl) g_RANKS)) (by rfl)) (fw_or1 (ft_cmp o_ninS (fk_of (fe_ix o_ix (fk_of (fe_var 0 (pv 0))) (fk_of fe_int) (fun _ _ => rfl))) (fk_of (fe_gstr (by rfl) g_SUITS)) (by rfl)))))) (rss_hd (rs_raise rfl (takes_of rfl rfl rfl rfl) flatE X_NoText (by rfl) rfl)) rss_no))
abbrev s_read : Stmt := topS 12
abbrev N_read : List Str := ["text", "word"]
theorem sc_read : FnScope N_read ["text"] (defScope s_read) := ⟨rfl, rfl, rfl, by decide +kernel, rfl, by decide +kernel, by decide +kernel⟩
def B_read : SF := (cSeq (cIfS (cNot (cT1 asB (c1 (isiD "str") (cV 0)))) cNever cNext)
  (cSeq (cIfS (cT1 asB (c2 eqD (cV 0) (cC (.str "-")))) (cRet (cTup cNil)) cNext)
  (cRet (cCall tupleD (cCons (cL (cLc (cIt (c2 splitD (cV 0) (cC (.str " ")))) [1] (gV 1) cYes (cCall F_card_of (cArgs 1 (cCons (cV 1) cNil))))) cNil)))))
@[irreducible] def F_read : List D → Option D := runF 2 B_read
theorem F_read_def : F_read = runF 2 B_read := by unfold F_read; rfl
theorem ok_read (hM : MemOk M) (hW : MemW M) (hB : Bt mg) (C_card_of : Cal P w K mg base M "card_of" 1 1 F_card_of) {f : Addr} {fd : FuncData} (Fn : Fun K "read" "read" s_read f fd) : FnOk P w K mg base CX0 2 f fd ["text"] (spF K M 1 F_read) :=
  F_read_def ▸ fun_ok Fn sc_read fun cdv A outer s H E hr => (fss_cons (fs_if (ft_not (ft_val (fe_isi (Tn := "str") (by rfl) hB.isinstance (by rfl) hB.str (by rfl) (fk_of (fe_var 0 (pv 0)))))) (fss_one fs_never) fss_nil)
      (fss_cons (fs_if (ft_cmp (o_eq (u64 hr)) (fk_of (fe_var 0 (pv 0))) (fk_of fe_str) (by rfl)) (fss_one (fs_ret (fe_tup hM fa_nil))) fss_nil)
      (fss_one (fs_ret (fe_callTy (c_tuple hM) (by rfl) hB.tuple (by rfl) (fak_cons (fk_of (fe_new (fn_lc hM hW rfl sc_read.nd (FI.zero (fi_list (fe_split hM (fk_of (fe_var 0 (pv 0))) (fk_of fe_str)))) (blkOk_by (own := [("word", 1)]) (N := N_read) (sc := defScope s_read) (by decide +kernel)) (fun _ _ _ _ _ => (fg_name (pg_name (i := 1) sc_read.nd rfl (by first | exact Or.inl rfl | exact Or.inr rfl)))) (fun _ _ _ _ _ => fts_nil) (fun _ _ _ _ _ => (fe_cal C_card_of hr (by decide) (by rfl) (fa_cons (fe_var 1 (pv 1)) fa_nil)))))) fak_nil))))))
def RB_read : RF := (rCons (rIf (cNot (cT1 asB (c1 (isiD "str") (cV 0)))) (rIt false) rNo) (cIfS (cNot (cT1 asB (c1 (isiD "str") (cV 0)))) cNever cNext)
  (rNx (cIfS (cT1 asB (c2 eqD (cV 0) (cC (.str "-")))) (cRet (cTup cNil)) cNext)
  (rLc (cIt (c2 splitD (cV 0) (cC (.str " ")))) [1] (gV 1) cYes (cCall F_card_of (cArgs 1 (cCons (cV 1) cNil))) (rCall R_card_of (cArgs 1 (cCons (cV 1) cNil))))))
@[irreducible] def R_read : List D → Option Bool := fun ds => RB_read (startE 2 ds)
theorem R_read_def : R_read = fun ds => RB_read (startE 2 ds) := by unfold R_read; rfl
theorem okR_read {CT CC : Addr} (hM : MemOk M) (hW : MemW M) (hB : Bt mg) (X_NoText : ExC K mg "NoText" CT) (CR_card_of : CalR P w K mg base M (eclO CT CC) "card_of" 1 1 R_card_of) (C_card_of : Cal P w K mg base M "card_of" 1 1 F_card_of) {f : Addr} {fd : FuncData} (Fn : Fun K "read" "read" s_read f fd) : FnOk P w K mg base (L2.CX P w) 2 f fd ["text"] (spR K M (eclO CT CC) 1 R_read) :=
  R_read_def ▸ funR Fn sc_read fun cdv A outer s H E hr => (rss_cons (rs_if (ft_not (ft_val (fe_isi (Tn := "str") (by rfl) hB.isinstance (by rfl) hB.str (by rfl) (fk_of (fe_var 0 (pv 0)))))) (rss_hd (rs_raise rfl (takes_of rfl rfl rfl rfl) flatE X_NoText (by rfl) rfl)) rss_no) (fs_if (ft_not (ft_val (fe_isi (Tn := "str") (by rfl) hB.isinstance (by rfl) hB.str (by rfl) (fk_of (fe_var 0 (pv 0)))))) (fss_one fs_never) fss_nil)
      (rss_tl (fs_if (ft_cmp (o_eq (u64 hr)) (fk_of (fe_var 0 (pv 0))) (fk_of fe_str) (by rfl)) (fss_one (fs_ret (fe_tup hM fa_nil))) fss_nil)
      (rss_hd (rs_ret flatE (re_ty1 (by rfl) hB.tuple (by rfl) (re_lc hM hW rfl sc_read.nd (takes_of rfl rfl rfl rfl) rfl rfl (FI.zero (fi_list (fe_split hM (fk_of (fe_var 0 (pv 0))) (fk_of fe_str)))) (blkOk_by (own := [("word", 1)]) (N := N_read) (sc := defScope s_read) (by decide +kernel)) (fun _ _ _ _ _ => (fg_name (pg_name (i := 1) sc_read.nd rfl (by first | exact Or.inl rfl | exact Or.inr rfl)))) (fun _ _ _ _ _ => fts_nil) (fun _ _ _ _ _ => (fe_cal C_card_of hr (by decide) (by rfl) (fa_cons (fe_var 1 (pv 1)) fa_nil))) (fun _ _ _ _ _ _ hp => re_calP CR_card_of hr (by decide) (by rfl) hp (fa_cons (fe_var 1 (pv 1)) fa_nil))))))))
abbrev s_law_cell_at : Stmt := topS 14
abbrev N_law_cell_at : List Str := ["_law_script", "_law_k"]
theorem sc_law_cell_at : FnScope N_law_cell_at ["_law_script", "_law_k"] (defScope s_law_cell_at) := ⟨rfl, rfl, rfl, by decide +kernel, rfl, by decide +kernel, by decide +kernel⟩
def B_law_cell_at : SF := (cSeq (cIfS (cT1 asB (c2 ltD (cV 1) (cCall lenD (cCons (cV 0) cNil)))) (cRet (c2 ixD (cV 0) (cV 1))) cNext)
  (cRet (cC (.int 0))))
@[irreducible] def F_law_cell_at : List D → Option D := runF 2 B_law_cell_at
theorem F_law_cell_at_def : F_law_cell_at = runF 2 B_law_cell_at := by unfold F_law_cell_at; rfl
theorem ok_law_cell_at (hM : MemOk M) (hW : MemW M) (hB : Bt mg) {f : Addr} {fd : FuncData} (Fn : Fun K "_law_cell_at" "_law_cell_at" s_law_cell_at f fd) : FnOk P w K mg base CX0 1 f fd ["_law_script", "_law_k"] (spF K M 2 F_law_cell_at) :=
  F_law_cell_at_def ▸ fun_ok Fn sc_law_cell_at fun cdv A outer s H E hr => (fss_cons (fs_if (ft_cmp o_lt (fk_of (fe_var 1 (pv 1))) (fk_of (fe_callB c_len (by rfl) hB.len (by rfl) (fak_cons (fk_of (fe_var 0 (pv 0))) fak_nil))) (by rfl)) (fss_one (fs_ret (fe_ix o_ix (fk_of (fe_var 0 (pv 0))) (fk_of (fe_var 1 (pv 1))) (fun _ _ => rfl)))) fss_nil)
      (fss_one (fs_ret fe_int)))
abbrev s_law_mixed : Stmt := topS 15
abbrev N_law_mixed : List Str := ["_law_script", "_law_k", "_law_drawn_here"]
theorem sc_law_mixed : FnScope N_law_mixed ["_law_script", "_law_k"] (defScope s_law_mixed) := ⟨rfl, rfl, rfl, by decide +kernel, rfl, by decide +kernel, by decide +kernel⟩
def B_law_mixed : SF := (cSeq (cAsg (c2 modD (c2 mulD (c2 addD (c2 addD (cCall F_law_cell_at (cArgs 2 (cCons (cV 0) (cCons (cV 1) cNil)))) (c2 mulD (cC (.int 7919)) (cV 1))) (cC (.int 1))) (cC (.int 48271))) (cC (.int 2147483647))) (gV 2))
  (cRet (c2 modD (c2 addD (c2 addD (c2 mulD (cV 2) (cV 2)) (c2 mulD (cC (.int 7)) (cV 2))) (cV 1)) (cC (.int 2147483629)))))
@[irreducible] def F_law_mixed : List D → Option D := runF 3 B_law_mixed
theorem F_law_mixed_def : F_law_mixed = runF 3 B_law_mixed := by unfold F_law_mixed; rfl
theorem ok_law_mixed (hM : MemOk M) (hW : MemW M) (hB : Bt mg) (C_law_cell_at : Cal P w K mg base M "_law_cell_at" 1 2 F_law_cell_at) {f : Addr} {fd : FuncData} (Fn : Fun K "_law_mixed" "_law_mixed" s_law_mixed f fd) : FnOk P w K mg base CX0 2 f fd ["_law_script", "_law_k"] (spF K M 2 F_law_mixed) :=
  F_law_mixed_def ▸ fun_ok Fn sc_law_mixed fun cdv A outer s H E hr => (fss_cons (fs_set (ps_set (i := 2) sc_law_mixed.nd rfl (by first | exact Or.inl rfl | exact Or.inr rfl) (fe_op o_mod (fk_of (fe_op (o_mul hM) (fk_of (fe_op (o_add hM) (fk_of (fe_op (o_add hM) (fk_of (fe_cal C_law_cell_at hr (by decide) (by rfl) (fa_cons (fe_var 0 (pv 0)) (fa_cons (fe_var 1 (pv 1)) fa_nil)))) (fk_of (fe_op (o_mul hM) (fk_of fe_int) (fk_of (fe_var 1 (pv 1))))))) (fk_of fe_int))) (fk_of fe_int))) (fk_of fe_int))))
      (fss_one (fs_ret (fe_op o_mod (fk_of (fe_op (o_add hM) (fk_of (fe_op (o_add hM) (fk_of (fe_op (o_mul hM) (fk_of (fe_var 2 (pv 2))) (fk_of (fe_var 2 (pv 2))))) (fk_of (fe_op (o_mul hM) (fk_of fe_int) (fk_of (fe_var 2 (pv 2))))))) (fk_of (fe_var 1 (pv 1))))) (fk_of fe_int)))))
abbrev s_law_drawn : Stmt := topS 16
abbrev N_law_drawn : List Str := ["_law_number", "_law_k", "_law_drawn_here"]
theorem sc_law_drawn : FnScope N_law_drawn ["_law_number", "_law_k"] (defScope s_law_drawn) := ⟨rfl, rfl, rfl, by decide +kernel, rfl, by decide +kernel, by decide +kernel⟩
def B_law_drawn : SF := (cSeq (cAsg (c2 modD (c2 mulD (c2 addD (c2 addD (cV 0) (c2 mulD (cC (.int 104729)) (cV 1))) (cC (.int 17))) (cC (.int 69621))) (cC (.int 2147483647))) (gV 2))
  (cRet (c2 modD (c2 addD (c2 addD (c2 mulD (cV 2) (cV 2)) (c2 mulD (cC (.int 3)) (cV 2))) (cV 1)) (cC (.int 2147483629)))))
@[irreducible] def F_law_drawn : List D → Option D := runF 3 B_law_drawn
theorem F_law_drawn_def : F_law_drawn = runF 3 B_law_drawn := by unfold F_law_drawn; rfl
theorem ok_law_drawn (hM : MemOk M) (hW : MemW M) (hB : Bt mg) {f : Addr} {fd : FuncData} (Fn : Fun K "_law_drawn" "_law_drawn" s_law_drawn f fd) : FnOk P w K mg base CX0 1 f fd ["_law_number", "_law_k"] (spF K M 2 F_law_drawn) :=
  F_law_drawn_def ▸ fun_ok Fn sc_law_drawn fun cdv A outer s H E hr => (fss_cons (fs_set (ps_set (i := 2) sc_law_drawn.nd rfl (by first | exact Or.inl rfl | exact Or.inr rfl) (fe_op o_mod (fk_of (fe_op (o_mul hM) (fk_of (fe_op (o_add hM) (fk_of (fe_op (o_add hM) (fk_of (fe_var 0 (pv 0))) (fk_of (fe_op (o_mul hM) (fk_of fe_int) (fk_of (fe_var 1 (pv 1))))))) (fk_of fe_int))) (fk_of fe_int))) (fk_of fe_int))))
      (fss_one (fs_ret (fe_op o_mod (fk_of (fe_op (o_add hM) (fk_of (fe_op (o_add hM) (fk_of (fe_op (o_mul hM) (fk_of (fe_var 2 (pv 2))) (fk_of (fe_var 2 (pv 2))))) (fk_of (fe_op (o_mul hM) (fk_of fe_int) (fk_of (fe_var 2 (pv 2))))))) (fk_of (fe_var 1 (pv 1))))) (fk_of fe_int)))))
abbrev s_law_deal : Stmt := topS 17
abbrev N_law_deal : List Str := ["_law_number", "_law_many", "_law_found", "_law_near", "_law_k", "_law_drawn_here", "_law_card"]
theorem sc_law_deal : FnScope N_law_deal ["_law_number", "_law_many"] (defScope s_law_deal) := ⟨rfl, rfl, rfl, by decide +kernel, rfl, by decide +kernel, by decide +kernel⟩
def B_law_deal : SF := (cSeq (cOwn 2 (chk 1000 cNil))
  (cSeq (cAsg (c2 modD (cV 0) (cC (.int 4))) (gV 3))
  (cSeq (cAsg (cC (.int 0)) (gV 4))
  (cSeq (whileN (cT1 asB (c2 ltD (cCall lenD (cCons (cO 2) cNil)) (cV 1))) (cSeq (cAsg (c2 fdivD (cCall F_law_drawn (cArgs 2 (cCons (cV 0) (cCons (cV 4) cNil)))) (cC (.int 4))) (gV 5))
  (cSeq (cAsg (cTup (cCons (c2 addD (cC (.int 1)) (c2 modD (cV 5) (cC (.int 13)))) (cCons (c2 modD (c2 fdivD (cV 5) (cC (.int 16))) (cC (.int 4))) cNil))) (gV 6))
  (cSeq (cIfS (cT1 asB (c2 eqD (cV 3) (cC (.int 1)))) (cAsg (cTup (cCons (c2 addD (cC (.int 4)) (c2 modD (cV 5) (cC (.int 5)))) (cCons (c2 modD (c2 fdivD (cV 5) (cC (.int 16))) (cC (.int 4))) cNil))) (gV 6)) cNext)
  (cSeq (cIfS (cT1 asB (c2 eqD (cV 3) (cC (.int 2)))) (cAsg (cTup (cCons (c2 ixD (cTup (cCons (cC (.int 1)) (cCons (cC (.int 2)) (cCons (cC (.int 3)) (cCons (cC (.int 5)) (cCons (cC (.int 10)) (cCons (cC (.int 11)) (cCons (cC (.int 13)) (cCons (cC (.int 4)) cNil))))))))) (c2 modD (cV 5) (cC (.int 8)))) (cCons (c2 modD (c2 fdivD (cV 5) (cC (.int 16))) (c2 ixD (cTup (cCons (cC (.int 4)) (cCons (cC (.int 1)) (cCons (cC (.int 2)) (cCons (cC (.int 4)) cNil))))) (c2 modD (c2 fdivD (cV 0) (cC (.int 4))) (cC (.int 4))))) cNil))) (gV 6)) cNext)
  (cSeq (cIfS (cT1 asB (c2 eqD (cV 3) (cC (.int 3)))) (cAsg (cTup (cCons (c2 ixD (cTup (cCons (cC (.int 5)) (cCons (cC (.int 10)) (cCons (cC (.int 11)) (cCons (cC (.int 12)) cNil))))) (c2 modD (cV 5) (cC (.int 4)))) (cCons (c2 modD (c2 fdivD (cV 5) (cC (.int 16))) (cC (.int 4))) cNil))) (gV 6)) cNext)
  (cSeq (cAsg (c2 addD (cV 4) (cC (.int 1))) (gV 4))
  (cSeq (cIfS (cT1 asB (c2 gtD (cV 4) (cC (.int 60)))) (cAsg (cTup (cCons (c2 addD (cC (.int 1)) (c2 modD (cV 4) (cC (.int 13)))) (cCons (c2 modD (c2 fdivD (cV 4) (cC (.int 13))) (cC (.int 4))) cNil))) (gV 6)) cNext)
  (cIfS (cT1 asB (c2 ninD (cV 6) (cO 2))) (cApp 2 (cV 6)) cNext)))))))) 200)
  (cSeq (cFrz 2) (cRet (cCall tupleD (cCons (cV 2) cNil))))))))
@[irreducible] def F_law_deal : List D → Option D := runF 7 B_law_deal
theorem F_law_deal_def : F_law_deal = runF 7 B_law_deal := by unfold F_law_deal; rfl
theorem ok_law_deal (hM : MemOk M) (hW : MemW M) (hB : Bt mg) (C_law_drawn : Cal P w K mg base M "_law_drawn" 1 2 F_law_drawn) {f : Addr} {fd : FuncData} (Fn : Fun K "_law_deal" "_law_deal" s_law_deal f fd) : FnOk P w K mg base CX0 2 f fd ["_law_number", "_law_many"] (spF K M 2 F_law_deal) :=
  F_law_deal_def ▸ fun_ok Fn sc_law_deal fun cdv A outer s H E hr => (fss_cons (own_of (ps_set (i := 2) sc_law_deal.nd rfl (by first | exact Or.inl rfl | exact Or.inr rfl) (fn_lst hM fa_nil)))
      (fss_cons (fs_set (ps_set (i := 3) sc_law_deal.nd rfl (by first | exact Or.inl rfl | exact Or.inr rfl) (fe_op o_mod (fk_of (fe_var 0 (pv 0))) (fk_of fe_int))))
      (fss_cons (fs_set (ps_set (i := 4) sc_law_deal.nd rfl (by first | exact Or.inl rfl | exact Or.inr rfl) fe_int))
      (fss_cons (fs_while 200 PassesOwn.never (ft_cmp o_lt (fk_of (fe_callB c_len (by rfl) hB.len (by rfl) (fak_cons (fk_own 2 (pv 2)) fak_nil))) (fk_of (fe_var 1 (pv 1))) (by rfl)) (fss_cons (fs_set (ps_set (i := 5) sc_law_deal.nd rfl (by first | exact Or.inl rfl | exact Or.inr rfl) (fe_op o_fdiv (fk_of (fe_cal C_law_drawn hr (by decide) (by rfl) (fa_cons (fe_var 0 (pv 0)) (fa_cons (fe_var 4 (pv 4)) fa_nil)))) (fk_of fe_int))))
      (fss_cons (fs_set (ps_set (i := 6) sc_law_deal.nd rfl (by first | exact Or.inl rfl | exact Or.inr rfl) (fe_tup hM (fa_cons (fe_op (o_add hM) (fk_of fe_int) (fk_of (fe_op o_mod (fk_of (fe_var 5 (pv 5))) (fk_of fe_int)))) (fa_cons (fe_op o_mod (fk_of (fe_op o_fdiv (fk_of (fe_var 5 (pv 5))) (fk_of fe_int))) (fk_of fe_int)) fa_nil)))))
      (fss_cons (fs_if (ft_cmp (o_eq (u64 hr)) (fk_of (fe_var 3 (pv 3))) (fk_of fe_int) (by rfl)) (fss_one (fs_set (ps_set (i := 6) sc_law_deal.nd rfl (by first | exact Or.inl rfl | exact Or.inr rfl) (fe_tup hM (fa_cons (fe_op (o_add hM) (fk_of fe_int) (fk_of (fe_op o_mod (fk_of (fe_var 5 (pv 5))) (fk_of fe_int)))) (fa_cons (fe_op o_mod (fk_of (fe_op o_fdiv (fk_of (fe_var 5 (pv 5))) (fk_of fe_int))) (fk_of fe_int)) fa_nil)))))) fss_nil)
      (fss_cons (fs_if (ft_cmp (o_eq (u64 hr)) (fk_of (fe_var 3 (pv 3))) (fk_of fe_int) (by rfl)) (fss_one (fs_set (ps_set (i := 6) sc_law_deal.nd rfl (by first | exact Or.inl rfl | exact Or.inr rfl) (fe_tup hM (fa_cons (fe_ix o_ix (fk_of (fe_tup hM (fa_cons fe_int (fa_cons fe_int (fa_cons fe_int (fa_cons fe_int (fa_cons fe_int (fa_cons fe_int (fa_cons fe_int (fa_cons fe_int fa_nil)))))))))) (fk_of (fe_op o_mod (fk_of (fe_var 5 (pv 5))) (fk_of fe_int))) (fun _ _ => rfl)) (fa_cons (fe_op o_mod (fk_of (fe_op o_fdiv (fk_of (fe_var 5 (pv 5))) (fk_of fe_int))) (fk_of (fe_ix o_ix (fk_of (fe_tup hM (fa_cons fe_int (fa_cons fe_int (fa_cons fe_int (fa_cons fe_int fa_nil)))))) (fk_of (fe_op o_mod (fk_of (fe_op o_fdiv (fk_of (fe_var 0 (pv 0))) (fk_of fe_int))) (fk_of fe_int))) (fun _ _ => rfl)))) fa_nil)))))) fss_nil)
      (fss_cons (fs_if (ft_cmp (o_eq (u64 hr)) (fk_of (fe_var 3 (pv 3))) (fk_of fe_int) (by rfl)) (fss_one (fs_set (ps_set (i := 6) sc_law_deal.nd rfl (by first | exact Or.inl rfl | exact Or.inr rfl) (fe_tup hM (fa_cons (fe_ix o_ix (fk_of (fe_tup hM (fa_cons fe_int (fa_cons fe_int (fa_cons fe_int (fa_cons fe_int fa_nil)))))) (fk_of (fe_op o_mod (fk_of (fe_var 5 (pv 5))) (fk_of fe_int))) (fun _ _ => rfl)) (fa_cons (fe_op o_mod (fk_of (fe_op o_fdiv (fk_of (fe_var 5 (pv 5))) (fk_of fe_int))) (fk_of fe_int)) fa_nil)))))) fss_nil)
      (fss_cons (fs_set (ps_set (i := 4) sc_law_deal.nd rfl (by first | exact Or.inl rfl | exact Or.inr rfl) (fe_op (o_add hM) (fk_of (fe_var 4 (pv 4))) (fk_of fe_int))))
      (fss_cons (fs_if (ft_cmp o_gt (fk_of (fe_var 4 (pv 4))) (fk_of fe_int) (by rfl)) (fss_one (fs_set (ps_set (i := 6) sc_law_deal.nd rfl (by first | exact Or.inl rfl | exact Or.inr rfl) (fe_tup hM (fa_cons (fe_op (o_add hM) (fk_of fe_int) (fk_of (fe_op o_mod (fk_of (fe_var 4 (pv 4))) (fk_of fe_int)))) (fa_cons (fe_op o_mod (fk_of (fe_op o_fdiv (fk_of (fe_var 4 (pv 4))) (fk_of fe_int))) (fk_of fe_int)) fa_nil)))))) fss_nil)
      (fss_one (fs_if (ft_cmp (o_nin (u65 hr)) (fk_of (fe_var 6 (pv 6))) (fk_own 2 (pv 2)) (by rfl)) (fss_one (fs_app (te := tVar 2) hM hW (ps_expr (pe_bm PySem.F.plainAttrs_list PySem.F.slot_list_append PySem.F.type_list_append mt_append (pv 2) (fa_cons (fe_var 6 (pv 6)) fa_nil))))) fss_nil))))))))))
      (fss_frz 2 (fss_one (fs_ret (fe_callTy (c_tuple hM) (by rfl) hB.tuple (by rfl) (fak_cons (fk_of (fe_var 2 (pv 2))) fak_nil)))))))))
abbrev s_law_bent : Stmt := topS 19
abbrev N_law_bent : List Str := ["_law_text", "_law_number", "_law_at", "_law_sign", "_law_words", "_law_row", "_law_ahead", "_law_later", "_law_some", "_law_twice"]
theorem sc_law_bent : FnScope N_law_bent ["_law_text", "_law_number"] (defScope s_law_bent) := ⟨rfl, rfl, rfl, by decide +kernel, rfl, by decide +kernel, by decide +kernel⟩
def B_law_bent : SF := (cSeq (cAsg (c2 modD (cV 1) (c2 addD (cCall lenD (cCons (cV 0) cNil)) (cC (.int 1)))) (gV 2))
  (cSeq (cAsg (c2 ixD (cC (.str "a123456789tjqkcdhs- ")) (c2 modD (c2 fdivD (cV 1) (cC (.int 512))) (cC (.int 20)))) (gV 3))
  (cSeq (cAsg (c2 splitD (cV 0) (cC (.str " "))) (gV 4))
  (cSeq (cAsg (c2 modD (c2 fdivD (cV 1) (cC (.int 16384))) (cCall lenD (cCons (cV 4) cNil))) (gV 5))
  (cSeq (cPar 6 7 (cCons (cSl (cV 0) cNo (cPt (cV 2))) (cCons (cSl (cV 0) (cPt (c2 addD (cV 2) (cC (.int 1)))) cNo) cNil)))
  (cSeq (cOwn 8 (chk 1000 (cCons (c2 addD (c2 addD (cV 6) (cV 3)) (cSl (cV 0) (cPt (cV 2)) cNo)) (cCons (c2 addD (cV 6) (cV 7)) (cCons (c2 addD (c2 addD (cV 6) (cV 3)) (cV 7)) cNil)))))
  (cSeq (cAsg (c2 addD (c2 addD (cSl (cV 4) cNo (cPt (cV 5))) (cSl (cV 4) (cPt (cV 5)) (cPt (c2 addD (cV 5) (cC (.int 1)))))) (cSl (cV 4) (cPt (cV 5)) cNo)) (gV 9))
  (cSeq (cApp 8 (c2 joinD (cC (.str " ")) (cV 9)))
  (cSeq (cApp 8 (c2 joinD (cC (.str " ")) (c2 addD (cSl (cV 4) cNo (cPt (cV 5))) (cSl (cV 4) (cPt (c2 addD (cV 5) (cC (.int 1)))) cNo))))
  (cSeq (cFrz 8) (cRet (c2 ixD (cV 8) (c2 modD (c2 fdivD (cV 1) (cC (.int 1048576))) (cC (.int 5)))))))))))))))
@[irreducible] def F_law_bent : List D → Option D := runF 10 B_law_bent
theorem F_law_bent_def : F_law_bent = runF 10 B_law_bent := by unfold F_law_bent; rfl
theorem ok_law_bent (hM : MemOk M) (hW : MemW M) (hB : Bt mg) {f : Addr} {fd : FuncData} (Fn : Fun K "_law_bent" "_law_bent" s_law_bent f fd) : FnOk P w K mg base CX0 1 f fd ["_law_text", "_law_number"] (spF K M 2 F_law_bent) :=
  F_law_bent_def ▸ fun_ok Fn sc_law_bent fun cdv A outer s H E hr => (fss_cons (fs_set (ps_set (i := 2) sc_law_bent.nd rfl (by first | exact Or.inl rfl | exact Or.inr rfl) (fe_op o_mod (fk_of (fe_var 1 (pv 1))) (fk_of (fe_op (o_add hM) (fk_of (fe_callB c_len (by rfl) hB.len (by rfl) (fak_cons (fk_of (fe_var 0 (pv 0))) fak_nil))) (fk_of fe_int))))))
      (fss_cons (fs_set (ps_set (i := 3) sc_law_bent.nd rfl (by first | exact Or.inl rfl | exact Or.inr rfl) (fe_ix o_ix (fk_of fe_str) (fk_of (fe_op o_mod (fk_of (fe_op o_fdiv (fk_of (fe_var 1 (pv 1))) (fk_of fe_int))) (fk_of fe_int))) (fun _ _ => rfl))))
      (fss_cons (fs_set (ps_set (i := 4) sc_law_bent.nd rfl (by first | exact Or.inl rfl | exact Or.inr rfl) (fe_split hM (fk_of (fe_var 0 (pv 0))) (fk_of fe_str))))
      (fss_cons (fs_set (ps_set (i := 5) sc_law_bent.nd rfl (by first | exact Or.inl rfl | exact Or.inr rfl) (fe_op o_mod (fk_of (fe_op o_fdiv (fk_of (fe_var 1 (pv 1))) (fk_of fe_int))) (fk_of (fe_callB c_len (by rfl) hB.len (by rfl) (fak_cons (fk_of (fe_var 4 (pv 4))) fak_nil))))))
      (fss_cons (fs_par (ps_par (i := 6) (j := 7) rfl sc_law_bent.nd rfl rfl (by decide) rfl rfl (fa_cons (fe_sl hM (fk_of (fe_var 0 (pv 0))) fo_none (fo_some (fe_var 2 (pv 2)))) (fa_cons (fe_sl hM (fk_of (fe_var 0 (pv 0))) (fo_some (fe_op (o_add hM) (fk_of (fe_var 2 (pv 2))) (fk_of fe_int))) fo_none) fa_nil)) (by rfl)))
      (fss_cons (own_of (ps_set (i := 8) sc_law_bent.nd rfl (by first | exact Or.inl rfl | exact Or.inr rfl) (fn_lst hM (fa_cons (fe_op (o_add hM) (fk_of (fe_op (o_add hM) (fk_of (fe_var 6 (pv 6))) (fk_of (fe_var 3 (pv 3))))) (fk_of (fe_sl hM (fk_of (fe_var 0 (pv 0))) (fo_some (fe_var 2 (pv 2))) fo_none))) (fa_cons (fe_op (o_add hM) (fk_of (fe_var 6 (pv 6))) (fk_of (fe_var 7 (pv 7)))) (fa_cons (fe_op (o_add hM) (fk_of (fe_op (o_add hM) (fk_of (fe_var 6 (pv 6))) (fk_of (fe_var 3 (pv 3))))) (fk_of (fe_var 7 (pv 7)))) fa_nil))))))
      (fss_cons (fs_set (ps_set (i := 9) sc_law_bent.nd rfl (by first | exact Or.inl rfl | exact Or.inr rfl) (fe_op (o_add hM) (fk_of (fe_op (o_add hM) (fk_of (fe_sl hM (fk_of (fe_var 4 (pv 4))) fo_none (fo_some (fe_var 5 (pv 5))))) (fk_of (fe_sl hM (fk_of (fe_var 4 (pv 4))) (fo_some (fe_var 5 (pv 5))) (fo_some (fe_op (o_add hM) (fk_of (fe_var 5 (pv 5))) (fk_of fe_int))))))) (fk_of (fe_sl hM (fk_of (fe_var 4 (pv 4))) (fo_some (fe_var 5 (pv 5))) fo_none)))))
      (fss_cons (fs_app (te := tVar 8) hM hW (ps_expr (pe_bm PySem.F.plainAttrs_list PySem.F.slot_list_append PySem.F.type_list_append mt_append (pv 8) (fa_cons (fe_join (fk_of fe_str) (fk_of (fe_var 9 (pv 9)))) fa_nil))))
      (fss_cons (fs_app (te := tVar 8) hM hW (ps_expr (pe_bm PySem.F.plainAttrs_list PySem.F.slot_list_append PySem.F.type_list_append mt_append (pv 8) (fa_cons (fe_join (fk_of fe_str) (fk_of (fe_op (o_add hM) (fk_of (fe_sl hM (fk_of (fe_var 4 (pv 4))) fo_none (fo_some (fe_var 5 (pv 5))))) (fk_of (fe_sl hM (fk_of (fe_var 4 (pv 4))) (fo_some (fe_op (o_add hM) (fk_of (fe_var 5 (pv 5))) (fk_of fe_int))) fo_none))))) fa_nil))))
      (fss_frz 8 (fss_one (fs_ret (fe_ix o_ix (fk_of (fe_var 8 (pv 8))) (fk_of (fe_op o_mod (fk_of (fe_op o_fdiv (fk_of (fe_var 1 (pv 1))) (fk_of fe_int))) (fk_of fe_int))) (fun _ _ => rfl))))))))))))))
abbrev s_law_told : Stmt := topS 18
abbrev N_law_told : List Str := ["_law_deed", "_law_found", "e", "_law_kinds"]
theorem sc_law_told : FnScope N_law_told ["_law_deed"] (defScope s_law_told) := ⟨rfl, rfl, rfl, by decide +kernel, rfl, by decide +kernel, by decide +kernel⟩
theorem told_ok {X : Cx} {ecl : EL} {g : Addr} {cdv : Value} {q : Str} (F : TF X.K X.mg ecl) : LamX.GivesTo X N_law_told "_law_told" (defScope s_law_told) g cdv (defBody s_law_told) "_law_deed" q (TTold ecl) := by
  intro f c' s H Q tl act hc h
  obtain ⟨CP, gp, hp⟩ := F.pe
  obtain ⟨CT, gt, ht⟩ := F.nt
  obtain ⟨CC, gc, hcc⟩ := F.nc
  have nd := sc_law_told.nd
  refine ⟨_, pss_cons (ps_try_as (X := (cxOf C8.CX0 X.prog X.w X.K X.mg X.base N_law_told "_law_told" (defScope s_law_told) g cdv X.A X.stack s H C8.E0).nox) (i := 2) (c := .ref CP)
    (tb := fun W D σ H => ∃ Ech : XK, (∀ cls d σ' H', Ech cls d H' → W cls d σ' H') ∧ σ[0]? = some (some (.ref f)) ∧ H c' = some (LamX.CodeO c' q) ∧ tl Ech H (fun v H' => [V.str "told", v].length ≤ sizeLine ∧ ∀ p, H' p = none → D.nx (σ.set 1 (some (.ref p))) (upd H' p (.tup [.str "told", v]))))
    (ts := fun a cls d D σ H => ∃ b, cls = ecl b ∧ d = none ∧ (∃ σ0 : L2.St, σ = σ0.set 2 (some (.ref a))) ∧ ∀ H'' p σ', Same H H'' → H'' p = some (.tup [.str "refused", .int (if b = true then 1 else 0)]) → σ'[1]? = some (some (.ref p)) → D.nx σ' H'')
    rfl rfl nd rfl rfl ⟨by rfl, by decide, .inl gp⟩ L2.takes0 (fun W pn xe tk _ => ?_) (fun a oe cls d pn hz hf => ?_)) (pss_one (ps_ret (pe_var (i := 1) rfl (.inl (by rfl))))), ?_⟩
  · refine ⟨fun pins s' σ H' D I h' => ?_⟩
    obtain ⟨Ech, hW, h1, h2, h3⟩ := h'
    exact (pss_one (ps_set (i := 1) nd rfl (.inl rfl) (pe_tup (pa_cons pe_str (pa_cons (act W pn xe Ech _ _ tk hW) pa_nil))))).run pins s' σ H' D I ⟨h1, h2, h3⟩
  · refine ⟨fun pins s' σ H' D I h' => ?_⟩
    obtain ⟨b, rfl, rfl, ⟨σ0, h0⟩, h3⟩ := h'
    have hl : σ.length = 4 := I.len
    have h2 : σ[2]? = some (some (.ref a)) := by rw [h0] at hl ⊢; exact List.getElem?_set_self (by rw [List.length_set] at hl; omega)
    obtain ⟨Dd, eD, xc⟩ := F.ex b
    have hz' := hz
    rw [eD] at hz'
    have isE := fun (C : Str) => call_isE (X := (cxOf C8.CX0 X.prog X.w X.K X.mg X.base N_law_told "_law_told" (defScope s_law_told) g cdv X.A X.stack s H C8.E0).nox) (a := a) (pn := pn) xc hz' hf
    refine (pss_cons (ps_set (i := 3) nd rfl (.inl rfl) (pe_lst (pa_cons (pe_callB (isE "") (by rfl) F.ii (by decide +kernel) (pa_cons (pe_var (i := 2) rfl (.inl (by rfl))) (pa_cons (pe_glob (v := .ref CT) (by rfl) gt rfl) pa_nil)))
        (pa_cons (pe_callB (isE "") (by rfl) F.ii (by decide +kernel) (pa_cons (pe_var (i := 2) rfl (.inl (by rfl))) (pa_cons (pe_glob (v := .ref CC) (by rfl) gc rfl) pa_nil))) pa_nil))))
      (pss_cons (ps_set (i := 1) nd rfl (.inl rfl) (pe_tup (pa_cons pe_str (pa_cons (pe_un un_neg pe_int) pa_nil))))
      (pss_one (ps_if (PW.pt (pw_and (pt_val (pe_callB (isE "") (by rfl) F.ii (by decide +kernel) (pa_cons (pe_var (i := 2) rfl (.inl (by rfl))) (pa_cons (pe_bltn (v := .ty "ValueError") (by rfl) F.ve (by decide +kernel) rfl) pa_nil))))
          (pw_and1 (pt_cmpR op_eq (pe_bm PySem.F.plainAttrs_list PySem.F.slot_list_count PySem.F.type_list_count mt_lcountB (pe_var (i := 3) rfl (.inl (by rfl))) (pa_cons pe_bl pa_nil)) pe_int (by rfl)))))
        (pss_one (ps_set (i := 1) nd rfl (.inl rfl) (pe_tup (pa_cons pe_str (pa_cons (pe_bm PySem.F.plainAttrs_list PySem.F.slot_list_index PySem.F.type_list_index mt_index (pe_var (i := 3) rfl (.inl (by rfl))) (pa_cons pe_bl pa_nil)) pa_nil)))))
        pss_nil)))).run pins s' σ H' D I ?_
    have lens : ∀ x y : V, [x, y].length ≤ sizeLine := fun x y => by rw [sizeLine_eq]; show (2 : Nat) ≤ 16777216; decide
    have k1 : PySem.W.kitOne X.K (.ref Dd) (.ref CT) = some (!b) := by rw [← eD]; exact ht b
    have k2 : PySem.W.kitOne X.K (.ref Dd) (.ref CC) = some b := by rw [← eD]; exact hcc b
    have k3 : PySem.W.kitOne X.K (.ref Dd) (.type "ValueError") = some true := by rw [← eD]; exact F.vk b
    have l1 : 1 < σ.length := by omega
    have l3 : 3 < σ.length := by omega
    refine ⟨_, h2, .ref CT, _, !b, rfl, fun u r => r, k1, _, h2, .ref CC, _, b, rfl, fun u r => r, k2, lens _ _, fun k hk => ?_⟩
    refine ⟨1, rfl, lens _ _, fun p1 hp1 => ?_⟩
    have e2 : ((σ.set 3 (some (V.ref k))).set 1 (some (V.ref p1)))[2]? = some (some (V.ref a)) := by
      rw [List.getElem?_set_ne (by decide), List.getElem?_set_ne (by decide)]; exact h2
    have e3 : ((σ.set 3 (some (V.ref k))).set 1 (some (V.ref p1)))[3]? = some (some (V.ref k)) := by
      rw [List.getElem?_set_ne (by decide), List.getElem?_set_self (by omega)]
    have nk : p1 ≠ k := fun z => by rw [z, upd_same] at hp1; cases hp1
    have eK : (upd (upd H' k (.lst [.bl !b, .bl b])) p1 (.tup [.str "refused", .int (-1)])) k = some (.lst [.bl !b, .bl b]) := by
      rw [upd_ne (fun z => nk z.symm), upd_same]
    have sq : SqL X.K (upd (upd H' k (.lst [.bl !b, .bl b])) p1 (.tup [.str "refused", .int (-1)])) k ([!b, b].map V.bl) := .inl (.inl eK)
    refine ⟨_, e2, .ty "ValueError", _, true, rfl, fun u r => r, k3, true, rfl, ?_⟩
    refine ⟨_, e3, .inl ⟨rfl, _, sq⟩, k, [!b, b], true, rfl, rfl, sq, ?_⟩
    refine ⟨by rfl, true, by cases b <;> rfl, ?_⟩
    refine ⟨_, e3, .inl ⟨rfl, _, sq⟩, k, _, .bl true, if b = true then 1 else 0, .bl true, rfl, rfl, sq, rfl, by cases b <;> rfl, by cases b <;> rfl, rfl, ?_, lens _ _, fun p2 hp2 => ?_⟩
    · intro m z hm hz
      cases b with
      | false => exact absurd hm (Nat.not_lt_zero _)
      | true =>
        have : m = 0 := by simp at hm; omega
        subst this
        cases hz; rfl
    · refine h3 _ p2 _ (((same_new hk).trans (same_new hp1)).trans (same_new hp2)) (by rw [upd_same]; cases b <;> rfl) ?_
      rw [List.getElem?_set_self (by simp; omega)]
  · have lens : ∀ x y : V, [x, y].length ≤ sizeLine := fun x y => by rw [sizeLine_eq]; show (2 : Nat) ≤ 16777216; decide
    have q1 : ∀ (σ : L2.St) (p : Addr) (H' : Hp), 1 < σ.length → Q (.ref p) H' → ∃ v, (σ.set 1 (some (V.ref p)))[1]? = some (some v) ∧ Q v H' := fun σ p H' hl hq => ⟨.ref p, List.getElem?_set_self hl, hq⟩
    refine ⟨fun cls d H' => ∃ b, cls = ecl b ∧ d = none ∧ ∀ H'' p, Same H' H'' → H'' p = some (.tup [.str "refused", .int (if b = true then 1 else 0)]) → Q (.ref p) H'', fun cls d σ' H' ⟨b, e1, e2, e3⟩ => ?_, rfl, hc, h _ _ (fun b H' z => ⟨b, rfl, rfl, z⟩) (fun v H' z => ⟨lens _ _, fun p hp => ?_⟩)⟩
    · subst e1 e2
      exact ⟨true, hp b, fun _ a ha => ⟨b, rfl, rfl, ⟨σ', rfl⟩, fun H'' p σ'' s1 s2 s3 => ⟨.ref p, by rw [List.getElem?_set_ne (by decide)]; exact s3, e3 H'' p s1 s2⟩⟩, fun z => nomatch z⟩
    · exact q1 _ _ _ (show 1 < (L2.start N_law_told [V.ref f]).length from (show 1 < 4 by decide)) (z p hp)
abbrev s_law : Stmt := topS 20
abbrev N_law : List Str := ["_law_script", "_law_number", "_law_text", "_law_k", "_law_found", "_law_card"]
theorem sc_law : FnScope N_law ["_law_script"] (defScope s_law) := ⟨rfl, rfl, rfl, by decide +kernel, rfl, by decide +kernel, by decide +kernel⟩
abbrev qL : Str := ("law" : Str) ++ ".<locals>." ++ "<lambda>"
def B_law : SF := (cSeq (cAsg (cCall F_law_mixed (cArgs 2 (cCons (cV 0) (cCons (cC (.int 0)) cNil)))) (gV 1))
  (cSeq (cAsg (cCall F_written (cArgs 1 (cCons (cCall F_law_deal (cArgs 2 (cCons (cCall F_law_mixed (cArgs 2 (cCons (cV 0) (cCons (cC (.int 1)) cNil)))) (cCons (c2 modD (c2 fdivD (cV 1) (cC (.int 16))) (cC (.int 8))) cNil)))) cNil))) (gV 2))
  (cSeq (cFor (cRg1 (c2 addD (cC (.int 1)) (c2 modD (c2 fdivD (cV 1) (cC (.int 4))) (cC (.int 3))))) (gV 3) (cSeq (cAsg (cCall F_law_bent (cArgs 2 (cCons (cV 2) (cCons (c2 fdivD (cCall F_law_drawn (cArgs 2 (cCons (cV 1) (cCons (cV 3) cNil)))) (cC (.int 4))) cNil)))) (gV 2))
  (cSeq (cAsg (cTold (cCall F_read (cArgs 1 (cCons (cV 2) cNil))) (rCall R_read (cArgs 1 (cCons (cV 2) cNil)))) (gV 4))
  (cSeq (cIfS (cT1 asB (c2 eqD (c2 ixD (cV 4) (cC (.int 0))) (cC (.str "refused")))) (cSeq (cIfS (cT1 asB (c2 neD (cV 4) (cTup (cCons (cC (.str "refused")) (cCons (cC (.int 0)) cNil))))) (cRet (cC (.bool false))) cNext)
  cCnt) cNext)
  (cSeq (cIfS (cOr (cNot (cT1 asB (c1 (isiD "tuple") (c2 ixD (cV 4) (cC (.int 1)))))) (cT1 asB (c2 neD (cCall F_written (cArgs 1 (cCons (c2 ixD (cV 4) (cC (.int 1))) cNil))) (cV 2)))) (cRet (cC (.bool false))) cNext)
  (cIfS (cT1 asB (c2 neD (cL (cLc (cItT (c2 ixD (cV 4) (cC (.int 1)))) [5] (gV 5) (cT1 asB (c2 isntD (cCall F_is_card (cArgs 1 (cCons (cV 5) cNil))) (cC (.bool true)))) (cV 5))) (cL (chk 1000 cNil)))) (cRet (cC (.bool false))) cNext))))))
  (cRet (cC (.bool true))))))
@[irreducible] def F_law : List D → Option D := runF 6 B_law
theorem F_law_def : F_law = runF 6 B_law := by unfold F_law; rfl
theorem ok_law {TP c ft CT CC : Addr} (tf : TF K mg (eclO CT CC)) (tb : LamX.TabB base mg c TP) (m_told : mg "_law_told" = some (.ref ft)) (k_told : PySem.W.keepIn K (.ref ft) = true) {oct : Value} {odt ant : Option Addr} {slt : Array (Option Value)} {kVt dct pmt cdt ctt : Value}
    (l_told : K.lookup ft = some ⟨oct, odt, .func (PySem.W.fnOf "_law_told" "_law_told" (defArgs s_law_told) (defBody s_law_told) (defScope s_law_told) .none kVt dct pmt ant cdt ctt), slt⟩) (c_told : PySem.W.codeIn K cdt "_law_told" = true) (b_told : L2.Binds K (PySem.W.fnOf "_law_told" "_law_told" (defArgs s_law_told) (defBody s_law_told) (defScope s_law_told) .none kVt dct pmt ant cdt ctt) ["_law_deed"] [])
    (hB : Bt mg) (CR_read : CalR P w K mg base (tbM TP qL) (eclO CT CC) "read" 2 1 R_read) (C_law_mixed : Cal P w K mg base (tbM TP qL) "_law_mixed" 2 2 F_law_mixed) (C_written : Cal P w K mg base (tbM TP qL) "written" 2 1 F_written) (C_law_deal : Cal P w K mg base (tbM TP qL) "_law_deal" 2 2 F_law_deal) (C_law_bent : Cal P w K mg base (tbM TP qL) "_law_bent" 1 2 F_law_bent) (C_law_drawn : Cal P w K mg base (tbM TP qL) "_law_drawn" 1 2 F_law_drawn) (C_read : Cal P w K mg base (tbM TP qL) "read" 2 1 F_read) (C_is_card : Cal P w K mg base (tbM TP qL) "is_card" 2 1 F_is_card) {f : Addr} {oc : Value} {od an : Option Addr} {osl : Array (Option Value)} {kV doc pm ct : Value} (lk : K.lookup f = some ⟨oc, od, .func (PySem.W.fnOf "law" "law" (defArgs s_law) (defBody s_law) (defScope s_law) .none kV doc pm an (.ref c) ct), osl⟩) (hcd : PySem.W.codeIn K (.ref c) "law" = true) :
    FnOk P w K mg base CX0 5 f (PySem.W.fnOf "law" "law" (defArgs s_law) (defBody s_law) (defScope s_law) .none kV doc pm an (.ref c) ct) ["_law_script"] (spT K TP qL F_law) :=
  have hM : MemOk (tbM TP qL) := tbM_ok _ _
  have hW : MemW (tbM TP qL) := tbM_w _ _
  F_law_def ▸ law_okT lk hcd sc_law fun A outer s H E hr => (fssm_cons (fsm_of (fs_set (ps_set (i := 1) sc_law.nd rfl (by first | exact Or.inl rfl | exact Or.inr rfl) (fe_cal C_law_mixed hr (by decide) (by rfl) (fa_cons (fe_var 0 (pv 0)) (fa_cons fe_int fa_nil))))))
      (fssm_cons (fsm_of (fs_set (ps_set (i := 2) sc_law.nd rfl (by first | exact Or.inl rfl | exact Or.inr rfl) (fe_cal C_written hr (by decide) (by rfl) (fa_cons (fe_cal C_law_deal hr (by decide) (by rfl) (fa_cons (fe_cal C_law_mixed hr (by decide) (by rfl) (fa_cons (fe_var 0 (pv 0)) (fa_cons fe_int fa_nil))) (fa_cons (fe_op o_mod (fk_of (fe_op o_fdiv (fk_of (fe_var 1 (pv 1))) (fk_of fe_int))) (fk_of fe_int)) fa_nil))) fa_nil)))))
      (fssm_cons (fsm_for PassesOwn.never rfl (fi_range1 (by rfl) hB.range (fe_op (o_add hM) (fk_of fe_int) (fk_of (fe_op o_mod (fk_of (fe_op o_fdiv (fk_of (fe_var 1 (pv 1))) (fk_of fe_int))) (fk_of fe_int))))) (fg_name (pg_name (i := 3) sc_law.nd rfl (by first | exact Or.inl rfl | exact Or.inr rfl))) (fssm_cons (fsm_of (fs_set (ps_set (i := 2) sc_law.nd rfl (by first | exact Or.inl rfl | exact Or.inr rfl) (fe_cal C_law_bent hr (by decide) (by rfl) (fa_cons (fe_var 2 (pv 2)) (fa_cons (fe_op o_fdiv (fk_of (fe_cal C_law_drawn hr (by decide) (by rfl) (fa_cons (fe_var 1 (pv 1)) (fa_cons (fe_var 3 (pv 3)) fa_nil)))) (fk_of fe_int)) fa_nil))))))
      (fssm_cons (fsm_set (ps_set (i := 4) sc_law.nd rfl (by first | exact Or.inl rfl | exact Or.inr rfl) (fem_told (k := 2) (by rfl) m_told k_told l_told c_told b_told sc_law_told rfl (.inl (by rfl)) (told_ok tf) tb rfl rfl (hr.mono (by decide)) (LamX.lamS_by (by show LamX.lamSB (defScope s_law) _ = true; decide +kernel)) rfl (fun _ _ _ _ _ => rfl)
        (fun A outer s H E f0 c1 hr => (fe_cal C_read hr (by decide) (by rfl) (fa_cons (fe_var 2 (pv 2)) fa_nil)))
        (fun A outer s H E f0 c1 hr => (re_cal CR_read hr (by decide) (by rfl) (takes_of rfl rfl rfl rfl) (fa_cons (fe_var 2 (pv 2)) fa_nil))))))
      (fssm_cons (fsm_of (fs_if (ft_cmp (o_eq (u64 hr)) (fk_of (fe_ix o_ix (fk_of (fe_var 4 (pv 4))) (fk_of fe_int) (fun _ _ => rfl))) (fk_of fe_str) (by rfl)) (fss_cons (fs_if (ft_cmp (o_ne (u64 hr)) (fk_of (fe_var 4 (pv 4))) (fk_of (fe_tup hM (fa_cons fe_str (fa_cons fe_int fa_nil)))) (by rfl)) (fss_one (fs_ret fe_bl)) fss_nil)
      (fss_one fs_continue)) fss_nil))
      (fssm_cons (fsm_of (fs_if (fw_pt (fw_or (ft_not (ft_val (fe_isi (Tn := "tuple") (by rfl) hB.isinstance (by rfl) hB.tuple (by rfl) (fk_of (fe_ix o_ix (fk_of (fe_var 4 (pv 4))) (fk_of fe_int) (fun _ _ => rfl)))))) (fw_or1 (ft_cmp (o_ne (u64 hr)) (fk_of (fe_cal C_written hr (by decide) (by rfl) (fa_cons (fe_ix o_ix (fk_of (fe_var 4 (pv 4))) (fk_of fe_int) (fun _ _ => rfl)) fa_nil))) (fk_of (fe_var 2 (pv 2))) (by rfl))))) (fss_one (fs_ret fe_bl)) fss_nil))
      (fssm_one (fsm_of (fs_if (ft_cmp (o_ne (u64 hr)) (fk_of (fe_new (fn_lc hM hW rfl sc_law.nd (FI.zero (fi_tup (fe_ix o_ix (fk_of (fe_var 4 (pv 4))) (fk_of fe_int) (fun _ _ => rfl)))) (blkOk_by (own := [("_law_card", 5)]) (N := N_law) (sc := defScope s_law) (by decide +kernel)) (fun _ _ _ _ _ => (fg_name (pg_name (i := 5) sc_law.nd rfl (by first | exact Or.inl rfl | exact Or.inr rfl)))) (fun _ _ _ _ _ => (fts_one (ft_cmp o_isnt (fk_of (fe_cal C_is_card hr (by decide) (by rfl) (fa_cons (fe_var 5 (pv 5)) fa_nil))) (fk_of fe_bl) (by rfl)))) (fun _ _ _ _ _ => (fe_var 5 (pv 5)))))) (fk_of (fe_new (fn_lst hM fa_nil))) (by rfl)) (fss_one (fs_ret fe_bl)) fss_nil))))))))
      (fssm_one (fsm_of (fs_ret fe_bl))))))
end
end LW
namespace LW
open PySem G

local macro_rules | `(tactic| walk_at "op") => `(tactic| first
  | assumption
  | rfl
  | exact mod_int (by first | decide | omega)
  | exact fdiv_int (by first | decide | omega)
  | exact mul_int (.inr (by first | decide | omega))
  | exact mul_int (.inl (by first | decide | omega))
  | exact eq_int _ _
  | exact ne_int _ _)
local macro_rules | `(tactic| walk_at "ev") => `(tactic| first
  | rfl
  | assumption
  | (apply e2; (walk_at "ev"); (walk_at "ev"); (walk_at "op"))
  | (apply e1; (walk_at "ev"); (walk_at "op"))
  | (apply eT; (walk_at "ev"); (walk_at "op"))
  | (apply eCons; (walk_at "ev"); (walk_at "ev"))
  | (apply eC; (walk_at "ev"); (walk_at "op"))
  | (apply eArgs; (walk_at "ev"); rfl)
  | (apply eTup; (walk_at "ev"); (simp only [List.length_cons, List.length_nil]; decide))
  | (apply eL; (walk_at "ev"))
  | (apply eChk; (walk_at "ev"); (simp only [List.length_cons, List.length_nil]; decide))
  | (apply and_2; (walk_at "ev"); (walk_at "ev"))
  | (apply or_2; (walk_at "ev"); (walk_at "ev"))
  | (apply not_1; (walk_at "ev"))
  | (apply eSl; (walk_at "ev"); (walk_at "ev"); (walk_at "ev"); (walk_at "op"))
  | (apply ePt; (walk_at "ev"))
  | (apply eIt; (walk_at "ev"))
  | (apply eItT; (walk_at "ev"))
  | (apply eEn; (walk_at "ev"))
  | (apply eRg1; (walk_at "ev"); (first | decide | omega))
  | (apply eRg2; (walk_at "ev"); (walk_at "ev"); (first | decide | omega)))
local macro_rules | `(tactic| walk_at "st") => `(tactic| first
  | (apply s_set; (walk_at "ev"))
  | (apply s_own; (walk_at "ev"))
  | (apply s_frz; rfl)
  | (apply s_ret; (walk_at "ev"); rfl)
  | (apply r_ret; (walk_at "ev"); rfl)
  | (apply s_next))
local macro_rules | `(tactic| walk_at "en") => `(tactic| simp only [List.set_cons_succ, List.set_cons_zero])
/-! ### small things -/
def rgI (lo : Int) (n : Nat) : List Int := (List.range n).map fun i => lo + (i : Nat)
theorem rgL_eq (lo : Int) (n : Nat) : rgL lo n = (rgI lo n).map PyData.int := by
  unfold rgL rgI
  rw [List.map_map]; rfl
theorem rgI_len (lo : Int) (n : Nat) : (rgI lo n).length = n := by unfold rgI; rw [List.length_map, List.length_range]
theorem rgI_mem {lo : Int} {n : Nat} {k : Int} (h : k ∈ rgI lo n) : lo ≤ k ∧ k < lo + n := by
  unfold rgI at h
  obtain ⟨i, hi, rfl⟩ := List.mem_map.mp h
  have := List.mem_range.mp hi
  omega
theorem menu4 (a b c d : Int) {i : Int} (h0 : 0 ≤ i) (h1 : i < 4) : ∃ x : Int, ixD (.tuple [.int a, .int b, .int c, .int d]) (.int i) = some (.int x) ∧ (x = a ∨ x = b ∨ x = c ∨ x = d) := by
  have h : i = 0 ∨ i = 1 ∨ i = 2 ∨ i = 3 := by omega
  rcases h with rfl | rfl | rfl | rfl
  · exact ⟨a, rfl, .inl rfl⟩
  · exact ⟨b, rfl, .inr (.inl rfl)⟩
  · exact ⟨c, rfl, .inr (.inr (.inl rfl))⟩
  · exact ⟨d, rfl, .inr (.inr (.inr rfl))⟩
theorem lim_of {n : Nat} (h : n ≤ 100000) : n < lim := by show n < 16777216; omega
theorem sIx_n (n : Nat) (k : Int) (h0 : 0 ≤ k) (h1 : k ≤ n) (d : Nat) : HT.sIx n d (some k) = k.toNat := by
  have := HT.sIx_nat n d k.toNat
  rw [Int.toNat_of_nonneg h0] at this
  rw [this]; omega
theorem cut_take (ds : List D) (k : Int) (h0 : 0 ≤ k) (h1 : k ≤ ds.length) : cutL ds none (some k) = ds.take k.toNat := by
  unfold cutL
  rw [sIx_n _ k h0 h1, HT.sIx_none, List.drop_zero, Nat.sub_zero]
theorem cut_drop (ds : List D) (k : Int) (h0 : 0 ≤ k) (h1 : k ≤ ds.length) : cutL ds (some k) none = ds.drop k.toNat := by
  unfold cutL
  rw [sIx_n _ k h0 h1, HT.sIx_none]
  exact List.take_of_length_le (by rw [List.length_drop]; omega)
theorem lcM {ρ : Ev} {it : LF} {vs : List Nat} {g : GF} {t : BF} {f : EF} {α : Type} {enc : α → D} {out : α → D} {p : α → Bool} {l : List α} (h : it ρ = some (l.map enc)) (hl : l.length ≤ 100000)
    (H : ∀ a ∈ l, ∃ ρ1, g (enc a) (wipeE ρ vs) = some ρ1 ∧ t ρ1 = some (p a) ∧ (p a = true → f ρ1 = some (out a))) : cLc it vs g t f ρ = some ((l.filter p).map out) :=
  (eLc h (by rw [List.length_map]; exact Nat.le_of_lt (lim_of hl))).trans (lc_map H)
/-- a comprehension as a value -/
theorem eLcM {ρ : Ev} {it : LF} {vs : List Nat} {g : GF} {t : BF} {f : EF} {α : Type} {enc : α → D} {out : α → D} {p : α → Bool} {l : List α} (h : it ρ = some (l.map enc)) (hl : l.length ≤ 100000)
    (H : ∀ a ∈ l, ∃ ρ1, g (enc a) (wipeE ρ vs) = some ρ1 ∧ t ρ1 = some (p a) ∧ (p a = true → f ρ1 = some (out a))) : cL (cLc it vs g t f) ρ = some (.list ((l.filter p).map out)) :=
  eL ((eLc h (by rw [List.length_map]; exact Nat.le_of_lt (lim_of hl))).trans (lc_map H))
theorem eLcA {ρ : Ev} {it : LF} {vs : List Nat} {g : GF} {f : EF} {α : Type} {enc : α → D} {out : α → D} {l : List α} (h : it ρ = some (l.map enc)) (hl : l.length ≤ 100000)
    (H : ∀ a ∈ l, ∃ ρ1, g (enc a) (wipeE ρ vs) = some ρ1 ∧ f ρ1 = some (out a)) : cL (cLc it vs g cYes f) ρ = some (.list (l.map out)) := by
  have := eLcM (t := cYes) (p := fun _ => true) (out := out) (f := f) (g := g) (vs := vs) h hl fun a ha => by
    obtain ⟨ρ1, h1, h2⟩ := H a ha
    exact ⟨ρ1, h1, rfl, fun _ => h2⟩
  rw [List.filter_eq_self.mpr (fun _ _ => rfl)] at this
  exact this
theorem sum_list {ρ : Ev} {f : EF} {ns : List Int} (h : f ρ = some (.list (ns.map PyData.int))) : cCall sumD (cCons f cNil) ρ = some (.int ns.sum) :=
  eC (eCons h rfl) (by show (intsD _).bind _ = _; rw [ints_map]; rfl)
theorem max_two (a b : Int) : maxD [.list [.int a, .int b]] = some (.int (max a b)) := by
  show (maxL [a, b]).bind _ = _
  have : maxL [a, b] = some (max a b) := by
    unfold maxL
    by_cases h : b ≤ a
    · have e : max a b = a := by omega
      rw [e]
      simp [h]
    · have e : max a b = b := by omega
      rw [e]
      have h2 : a ≤ b := by omega
      simp [h, h2]
  rw [this]; rfl
theorem min_two (a b : Int) : minD [.int a, .int b] = some (.int (min a b)) := by
  show some (PyData.int (if b < a then b else a)) = _
  congr 2
  split <;> omega
theorem rgI_consN (m k : Nat) : rgI (m : Int) (k + 1) = (m : Int) :: rgI ((m + 1 : Nat) : Int) k := by
  unfold rgI
  rw [List.range_succ_eq_map, List.map_cons, List.map_map]
  congr 1
  · simp
    intro k _
    omega
theorem add_list {xs ys : List D} (h : xs.length + ys.length ≤ 100000) : addD (.list xs) (.list ys) = some (.list (xs ++ ys)) := by
  show (if xs.length + ys.length ≤ lim then some (PyData.list (xs ++ ys)) else none) = _
  rw [if_pos (show _ ≤ lim from Nat.le_of_lt (lim_of h))]

/-! ### the draws -/
/-- a script, as it is handed in or made anew -/
def Scr (d : D) (ns : List Int) : Prop := d = scrD ns ∨ d = .list (ns.map PyData.int)
def cellI (ns : List Int) (k : Int) : Int := if k < ns.length then (ns[k.toNat]?).getD 0 else 0
theorem Scr.len {d : D} {ns : List Int} (h : Scr d ns) : lenD [d] = some (.int ns.length) := by
  rcases h with rfl | rfl
  · show (scrI _).bind _ = _
    rw [scrI_of]; rfl
  · show some (PyData.int ((ns.map PyData.int).length : Nat)) = _
    rw [List.length_map]
theorem Scr.ix {d : D} {ns : List Int} (h : Scr d ns) {k : Int} (h0 : 0 ≤ k) (h1 : k < ns.length) : ixD d (.int k) = some (.int ((ns[k.toNat]?).getD 0)) := by
  have hl : k.toNat < ns.length := by omega
  have e : L2.atI ns k = some ((ns[k.toNat]?).getD 0) := by
    unfold L2.atI L2.ixN
    rw [if_pos h0, if_pos h1]
    show ns[k.toNat]? = _
    rw [List.getElem?_eq_getElem hl]; rfl
  rcases h with rfl | rfl
  · show (scrI _).bind _ = _
    rw [scrI_of]
    show (L2.atI ns k).bind _ = _
    rw [e]; rfl
  · show L2.atI (ns.map PyData.int) k = _
    unfold L2.atI at e ⊢
    rw [List.length_map]
    obtain ⟨j, e1, e2⟩ := bind_some e
    rw [e1]
    show (ns.map PyData.int)[j]? = _
    rw [List.getElem?_map, e2]; rfl
theorem cell_at {d : D} {ns : List Int} (h : Scr d ns) {k : Int} (h0 : 0 ≤ k) : F_law_cell_at [d, .int k] = some (.int (cellI ns k)) := by
  rw [F_law_cell_at_def]
  apply run_rt
  show B_law_cell_at [.va d, .va (.int k)] = _
  unfold B_law_cell_at cellI
  have hl := h.len
  have t : cT1 asB (c2 ltD (cV 1) (cCall lenD (cCons (cV 0) cNil))) [.va d, .va (.int k)] = some (decide (k < ns.length)) := by walk_at "ev"
  by_cases hk : k < ns.length
  · rw [decide_eq_true hk] at t
    rw [if_pos hk]
    have hx := h.ix h0 hk
    apply s_ifT t
    walk_at "st"
  · rw [decide_eq_false hk] at t
    rw [if_neg hk]
    apply s_ifF t
    walk_at "st"
    walk_at "st"
theorem mixed_ok {d : D} {ns : List Int} (h : Scr d ns) {k : Int} (h0 : 0 ≤ k) (h1 : k < 1000) : ∃ m : Int, F_law_mixed [d, .int k] = some (.int m) ∧ 0 ≤ m ∧ m < 2147483629 := by
  let c : Int := (cellI ns k + 7919 * k + 1) * 48271 % 2147483647
  have c0 : 0 ≤ c := Int.emod_nonneg _ (by decide)
  have c1 : c < 2147483647 := Int.emod_lt_of_pos _ (by decide)
  refine ⟨(c * c + 7 * c + k) % 2147483629, ?_, Int.emod_nonneg _ (by decide), Int.emod_lt_of_pos _ (by decide)⟩
  rw [F_law_mixed_def]
  apply run_rt
  show B_law_mixed [.va d, .va (.int k), .no] = _
  unfold B_law_mixed
  have hc := cell_at h h0
  walk_at "st"
  show cRet _ [.va d, .va (.int k), .va (.int c)] = _
  walk_at "st"

theorem drawn_ok {n k : Int} (n0 : 0 ≤ n) (n1 : n < 2147483629) (h0 : 0 ≤ k) (h1 : k < 1000) : ∃ m : Int, F_law_drawn [.int n, .int k] = some (.int m) ∧ 0 ≤ m ∧ m < 2147483629 := by
  let c : Int := (n + 104729 * k + 17) * 69621 % 2147483647
  have c0 : 0 ≤ c := Int.emod_nonneg _ (by decide)
  have c1 : c < 2147483647 := Int.emod_lt_of_pos _ (by decide)
  refine ⟨(c * c + 3 * c + k) % 2147483629, ?_, Int.emod_nonneg _ (by decide), Int.emod_lt_of_pos _ (by decide)⟩
  rw [F_law_drawn_def]
  apply run_rt
  show B_law_drawn [.va (.int n), .va (.int k), .no] = _
  unfold B_law_drawn
  walk_at "st"
  show cRet _ [.va (.int n), .va (.int k), .va (.int c)] = _
  walk_at "st"

/-! ### cards, and the deal -/
abbrev Cd := Int × Int
def cdD (c : Cd) : D := .tuple [.int c.1, .int c.2]
def cdT (l : List Cd) : D := .tuple (l.map cdD)
def cdL (l : List Cd) : D := .list (l.map cdD)
def CdOk (c : Cd) : Prop := 1 ≤ c.1 ∧ c.1 ≤ 13 ∧ 0 ≤ c.2 ∧ c.2 < 4
theorem shaped_cd (c : Cd) : SeqAt.shaped (cdD c) = true := rfl
theorem eqv_cd (c d : Cd) : PyData.eqv (cdD c) (cdD d) = decide (c = d) := by
  show ((c.1 == d.1) && ((c.2 == d.2) && true)) = _
  rw [Bool.and_true, Bool.beq_eq_decide_eq, Bool.beq_eq_decide_eq, ← Bool.decide_and, decide_eq_decide, Prod.ext_iff]
theorem depth_cd (c : Cd) : PyData.depth (cdD c) ≤ 1 := by
  simp [cdD, PyData.depth, PyData.depthAll]
theorem canLay_cds (l : List Cd) : PyData.canLayAll0 (l.map cdD) = true := by
  induction l with
  | nil => rfl
  | cons a l ih =>
    rw [List.map_cons]
    simp only [PyData.canLayAll0, Bool.and_eq_true]
    exact ⟨rfl, ih⟩
theorem depthAll_cds (l : List Cd) : PyData.depthAll (l.map cdD) ≤ 1 := by
  induction l with
  | nil => simp [PyData.depthAll]
  | cons a l ih =>
    rw [List.map_cons]
    simp only [PyData.depthAll]
    have := depth_cd a
    omega
theorem shaped_cds (l : List Cd) : SeqAt.shaped (cdL l) = true := by
  have h1 := canLay_cds l
  have h2 := depthAll_cds l
  show (PyData.canLay0 (.list (l.map cdD)) && decide (PyData.depth (.list (l.map cdD)) ≤ 64)) = true
  simp only [PyData.canLay0, PyData.depth, h1, Bool.true_and]
  exact decide_eq_true (by omega)
theorem shaped_cdt (l : List Cd) : SeqAt.shaped (cdT l) = true := by
  have h1 := canLay_cds l
  have h2 := depthAll_cds l
  show (PyData.canLay0 (.tuple (l.map cdD)) && decide (PyData.depth (.tuple (l.map cdD)) ≤ 64)) = true
  simp only [PyData.canLay0, PyData.depth, h1, Bool.true_and]
  exact decide_eq_true (by omega)
theorem any_cds (c : Cd) (l : List Cd) : ((l.map cdD).any fun z => PyData.eqv z (cdD c)) = decide (c ∈ l) := by
  induction l with
  | nil => simp
  | cons a l ih =>
    rw [List.map_cons, List.any_cons, ih, eqv_cd, ← Bool.decide_or, decide_eq_decide, List.mem_cons]
    constructor
    · rintro (h | h)
      · exact .inl h.symm
      · exact .inr h
    · rintro (h | h)
      · exact .inl h.symm
      · exact .inr h
theorem in_cdL (c : Cd) (l : List Cd) : inD (cdD c) (cdL l) = some (.bool (decide (c ∈ l))) := by
  show (if SeqAt.shaped (cdD c) = true ∧ SeqAt.shaped (cdL l) = true then some (PyData.bool (((l.map cdD).any fun z => PyData.eqv z (cdD c)))) else none) = _
  rw [any_cds]
  exact if_pos ⟨shaped_cd c, shaped_cds l⟩
theorem nin_cdL (c : Cd) (l : List Cd) : ninD (cdD c) (cdL l) = some (.bool (!decide (c ∈ l))) := by
  show (if SeqAt.shaped (cdD c) = true ∧ SeqAt.shaped (cdL l) = true then some (PyData.bool (!((l.map cdD).any fun z => PyData.eqv z (cdD c)))) else none) = _
  rw [any_cds]
  exact if_pos ⟨shaped_cd c, shaped_cds l⟩
theorem in_cdT (c : Cd) (l : List Cd) : inD (cdD c) (cdT l) = some (.bool (decide (c ∈ l))) := by
  show (if SeqAt.shaped (cdD c) = true ∧ SeqAt.shaped (cdT l) = true then some (PyData.bool (((l.map cdD).any fun z => PyData.eqv z (cdD c)))) else none) = _
  rw [any_cds]
  exact if_pos ⟨shaped_cd c, shaped_cdt l⟩
theorem nin_cdT (c : Cd) (l : List Cd) : ninD (cdD c) (cdT l) = some (.bool (!decide (c ∈ l))) := by
  show (if SeqAt.shaped (cdD c) = true ∧ SeqAt.shaped (cdT l) = true then some (PyData.bool (!((l.map cdD).any fun z => PyData.eqv z (cdD c)))) else none) = _
  rw [any_cds]
  exact if_pos ⟨shaped_cd c, shaped_cdt l⟩
/-- no more of one than of another that holds them all -/
theorem len_sub : ∀ (l m : List Cd), l.Nodup → (∀ x ∈ l, x ∈ m) → l.length ≤ m.length
  | [], m, _, _ => Nat.zero_le _
  | a :: l, m, hn, hs => by
    obtain ⟨h1, h2⟩ := List.nodup_cons.mp hn
    have ha := hs a List.mem_cons_self
    have := len_sub l (m.erase a) h2 fun x hx => (List.mem_erase_of_ne (fun e => h1 (by rw [← e]; exact hx))).mpr (hs x (List.mem_cons_of_mem _ hx))
    rw [List.length_erase_of_mem ha] at this
    have : 0 < m.length := List.length_pos_of_mem ha
    rw [List.length_cons]; omega
/-- the k-th card of the way through all of them -/
def wayC (k : Nat) : Cd := (1 + ((k : Int)) % 13, ((k : Int)) / 13 % 4)
theorem way_nodup : ((List.range 52).map fun i => wayC (61 + i)).Nodup := by decide +kernel
theorem way_ok (k : Nat) : CdOk (wayC k) := by
  unfold wayC CdOk
  simp only
  omega
abbrev dealT : BF := (cT1 asB (c2 ltD (cCall lenD (cCons (cO 2) cNil)) (cV 1)))
abbrev dealB1 : SF → SF := fun R => (cSeq (cAsg (c2 fdivD (cCall F_law_drawn (cArgs 2 (cCons (cV 0) (cCons (cV 4) cNil)))) (cC (.int 4))) (gV 5))
  (cSeq (cAsg (cTup (cCons (c2 addD (cC (.int 1)) (c2 modD (cV 5) (cC (.int 13)))) (cCons (c2 modD (c2 fdivD (cV 5) (cC (.int 16))) (cC (.int 4))) cNil))) (gV 6))
  (cSeq (cIfS (cT1 asB (c2 eqD (cV 3) (cC (.int 1)))) (cAsg (cTup (cCons (c2 addD (cC (.int 4)) (c2 modD (cV 5) (cC (.int 5)))) (cCons (c2 modD (c2 fdivD (cV 5) (cC (.int 16))) (cC (.int 4))) cNil))) (gV 6)) cNext)
  (cSeq (cIfS (cT1 asB (c2 eqD (cV 3) (cC (.int 2)))) (cAsg (cTup (cCons (c2 ixD (cTup (cCons (cC (.int 1)) (cCons (cC (.int 2)) (cCons (cC (.int 3)) (cCons (cC (.int 5)) (cCons (cC (.int 10)) (cCons (cC (.int 11)) (cCons (cC (.int 13)) (cCons (cC (.int 4)) cNil))))))))) (c2 modD (cV 5) (cC (.int 8)))) (cCons (c2 modD (c2 fdivD (cV 5) (cC (.int 16))) (c2 ixD (cTup (cCons (cC (.int 4)) (cCons (cC (.int 1)) (cCons (cC (.int 2)) (cCons (cC (.int 4)) cNil))))) (c2 modD (c2 fdivD (cV 0) (cC (.int 4))) (cC (.int 4))))) cNil))) (gV 6)) cNext)
  (cSeq (cIfS (cT1 asB (c2 eqD (cV 3) (cC (.int 3)))) (cAsg (cTup (cCons (c2 ixD (cTup (cCons (cC (.int 5)) (cCons (cC (.int 10)) (cCons (cC (.int 11)) (cCons (cC (.int 12)) cNil))))) (c2 modD (cV 5) (cC (.int 4)))) (cCons (c2 modD (c2 fdivD (cV 5) (cC (.int 16))) (cC (.int 4))) cNil))) (gV 6)) cNext)
  R)))))
abbrev dealB2 : SF := (cSeq (cAsg (c2 addD (cV 4) (cC (.int 1))) (gV 4))
  (cSeq (cIfS (cT1 asB (c2 gtD (cV 4) (cC (.int 60)))) (cAsg (cTup (cCons (c2 addD (cC (.int 1)) (c2 modD (cV 4) (cC (.int 13)))) (cCons (c2 modD (c2 fdivD (cV 4) (cC (.int 13))) (cC (.int 4))) cNil))) (gV 6)) cNext)
  (cIfS (cT1 asB (c2 ninD (cV 6) (cO 2))) (cApp 2 (cV 6)) cNext)))
theorem menu8 {i : Int} (h0 : 0 ≤ i) (h1 : i < 8) : ∃ x : Int, ixD (.tuple [.int 1, .int 2, .int 3, .int 5, .int 10, .int 11, .int 13, .int 4]) (.int i) = some (.int x) ∧ 1 ≤ x ∧ x ≤ 13 := by
  have h : i = 0 ∨ i = 1 ∨ i = 2 ∨ i = 3 ∨ i = 4 ∨ i = 5 ∨ i = 6 ∨ i = 7 := by omega
  rcases h with rfl | rfl | rfl | rfl | rfl | rfl | rfl | rfl <;> exact ⟨_, rfl, by decide, by decide⟩
/-- the first half of a turn: some card or other -/
theorem deal_one (n : Int) (n0 : 0 ≤ n) (n1 : n < 2147483629) (k : Int) (k0 : 0 ≤ k) (k1 : k < 1000) (d1 : Sl) (l : List D) (x5 x6 : Sl) (R : SF) :
    ∃ (c : Cd) (y5 : Sl), CdOk c ∧ dealB1 R [.va (.int n), d1, .ow l, .va (.int (n % 4)), .va (.int k), x5, x6] = R [.va (.int n), d1, .ow l, .va (.int (n % 4)), .va (.int k), y5, .va (cdD c)] := by
  obtain ⟨m, hm, m0, m1⟩ := drawn_ok n0 n1 k0 k1
  obtain ⟨a, ea⟩ : ∃ a : Int, a = m / 4 := ⟨_, rfl⟩
  have a0 : 0 ≤ a := by omega
  have hn : n % 4 = 0 ∨ n % 4 = 1 ∨ n % 4 = 2 ∨ n % 4 = 3 := by omega
  have ha : (c2 fdivD (cCall F_law_drawn (cArgs 2 (cCons (cV 0) (cCons (cV 4) cNil)))) (cC (.int 4))) [.va (.int n), d1, .ow l, .va (.int (n % 4)), .va (.int k), x5, x6] = some (.int a) := by
    rw [ea]; exact e2 (eC (eArgs (eCons rfl (eCons rfl rfl)) rfl) hm) rfl (fdiv_int (by decide))
  have tt : ∀ (y : Sl) (j : Int), cT1 asB (c2 eqD (cV 3) (cC (.int j))) [.va (.int n), d1, .ow l, .va (.int (n % 4)), .va (.int k), .va (.int a), y] = some (decide (n % 4 = j)) := fun y j => eT (e2 rfl rfl (eq_int _ _)) rfl
  unfold dealB1
  rcases hn with h | h | h | h
  · refine ⟨(1 + a % 13, a / 16 % 4), .va (.int a), ?_, ?_⟩
    · unfold CdOk; simp only; omega
    · refine s_set ha (s_set (d := cdD (1 + a % 13, a / 16 % 4)) (by show _ = some (PyData.tuple [.int (1 + a % 13), .int (a / 16 % 4)]); walk_at "ev") ?_)
      refine s_ifF (by show cT1 asB _ [_, _, _, _, _, _, .va (cdD (1 + a % 13, a / 16 % 4))] = _; rw [tt, h]; rfl) (s_next ?_)
      refine s_ifF (by show cT1 asB _ [_, _, _, _, _, _, .va (cdD (1 + a % 13, a / 16 % 4))] = _; rw [tt, h]; rfl) (s_next ?_)
      refine s_ifF (by show cT1 asB _ [_, _, _, _, _, _, .va (cdD (1 + a % 13, a / 16 % 4))] = _; rw [tt, h]; rfl) (s_next rfl)
  · refine ⟨(4 + a % 5, a / 16 % 4), .va (.int a), ?_, ?_⟩
    · unfold CdOk; simp only; omega
    · refine s_set ha (s_set (d := cdD (1 + a % 13, a / 16 % 4)) (by show _ = some (PyData.tuple [.int (1 + a % 13), .int (a / 16 % 4)]); walk_at "ev") ?_)
      refine s_ifT (by show cT1 asB _ [_, _, _, _, _, _, .va (cdD (1 + a % 13, a / 16 % 4))] = _; rw [tt, h]; rfl) ?_
      refine s_set (d := cdD (4 + a % 5, a / 16 % 4)) (by show _ = some (PyData.tuple [.int (4 + a % 5), .int (a / 16 % 4)]); walk_at "ev") ?_
      refine s_ifF (by show cT1 asB _ [_, _, _, _, _, _, .va (cdD (4 + a % 5, a / 16 % 4))] = _; rw [tt, h]; rfl) (s_next ?_)
      refine s_ifF (by show cT1 asB _ [_, _, _, _, _, _, .va (cdD (4 + a % 5, a / 16 % 4))] = _; rw [tt, h]; rfl) (s_next rfl)
  · obtain ⟨x, hx, x0, x1⟩ := menu8 (i := a % 8) (by omega) (by omega)
    obtain ⟨y, hy, hy4⟩ := menu4 4 1 2 4 (i := n / 4 % 4) (by omega) (by omega)
    have hy0 : 0 < y := by omega
    refine ⟨(x, a / 16 % y), .va (.int a), ?_, ?_⟩
    · refine ⟨x0, x1, Int.emod_nonneg _ (by omega), ?_⟩
      have := Int.emod_lt_of_pos (a / 16) hy0
      show a / 16 % y < 4
      omega
    · refine s_set ha (s_set (d := cdD (1 + a % 13, a / 16 % 4)) (by show _ = some (PyData.tuple [.int (1 + a % 13), .int (a / 16 % 4)]); walk_at "ev") ?_)
      refine s_ifF (by show cT1 asB _ [_, _, _, _, _, _, .va (cdD (1 + a % 13, a / 16 % 4))] = _; rw [tt, h]; rfl) (s_next ?_)
      refine s_ifT (by show cT1 asB _ [_, _, _, _, _, _, .va (cdD (1 + a % 13, a / 16 % 4))] = _; rw [tt, h]; rfl) ?_
      refine s_set (d := cdD (x, a / 16 % y)) (by show _ = some (PyData.tuple [.int x, .int (a / 16 % y)]); walk_at "ev") ?_
      refine s_ifF (by show cT1 asB _ [_, _, _, _, _, _, .va (cdD (x, a / 16 % y))] = _; rw [tt, h]; rfl) (s_next rfl)
  · obtain ⟨x, hx, hx4⟩ := menu4 5 10 11 12 (i := a % 4) (by omega) (by omega)
    refine ⟨(x, a / 16 % 4), .va (.int a), ?_, ?_⟩
    · unfold CdOk; simp only; omega
    · refine s_set ha (s_set (d := cdD (1 + a % 13, a / 16 % 4)) (by show _ = some (PyData.tuple [.int (1 + a % 13), .int (a / 16 % 4)]); walk_at "ev") ?_)
      refine s_ifF (by show cT1 asB _ [_, _, _, _, _, _, .va (cdD (1 + a % 13, a / 16 % 4))] = _; rw [tt, h]; rfl) (s_next ?_)
      refine s_ifF (by show cT1 asB _ [_, _, _, _, _, _, .va (cdD (1 + a % 13, a / 16 % 4))] = _; rw [tt, h]; rfl) (s_next ?_)
      refine s_ifT (by show cT1 asB _ [_, _, _, _, _, _, .va (cdD (1 + a % 13, a / 16 % 4))] = _; rw [tt, h]; rfl) ?_
      exact s_set (d := cdD (x, a / 16 % 4)) (by show _ = some (PyData.tuple [.int x, .int (a / 16 % 4)]); walk_at "ev") rfl
theorem deal_loop (n : Int) (n0 : 0 ≤ n) (n1 : n < 2147483629) (many : Nat) (hm : many ≤ 52) : ∀ (f k : Nat) (l : List Cd) (x5 x6 : Sl), k + f = 200 → k ≤ 113 → l.Nodup → (∀ c ∈ l, CdOk c) → l.length ≤ many → (∀ j, 61 ≤ j → j ≤ k → wayC j ∈ l) →
    ∃ (l' : List Cd) (y4 y5 y6 : Sl), whileN dealT (dealB1 dealB2) f [.va (.int n), .va (.int many), .ow (l.map cdD), .va (.int (n % 4)), .va (.int k), x5, x6] = some (.nx [.va (.int n), .va (.int many), .ow (l'.map cdD), .va (.int (n % 4)), y4, y5, y6]) ∧ l'.Nodup ∧ (∀ c ∈ l', CdOk c) ∧ l'.length = many
  | 0, k, l, _, _, hf, hk, _, _, _, _ => absurd hf (by omega)
  | f + 1, k, l, x5, x6, hf, hk, hd, hc, hl, hw => by
    have ht : dealT [.va (.int n), .va (.int many), .ow (l.map cdD), .va (.int (n % 4)), .va (.int k), x5, x6] = some (decide (l.length < many)) := by
      have q : lenD [.list (l.map cdD)] = some (.int (l.length : Nat)) := by
        show some (PyData.int ((l.map cdD).length : Nat)) = _
        rw [List.length_map]
      refine eT (e2 (eC (eCons rfl rfl) q) rfl rfl) ?_
      show some (decide ((l.length : Int) < (many : Int))) = _
      congr 1
      rw [decide_eq_decide]; omega
    by_cases h : l.length < many
    · have hk2 : k < 113 := by
        rcases Nat.lt_or_ge k 113 with z | z
        · exact z
        · have := len_sub _ l way_nodup (by
            intro x hx
            obtain ⟨i, hi, rfl⟩ := List.mem_map.mp hx
            have := List.mem_range.mp hi
            exact hw _ (by omega) (by omega))
          rw [List.length_map, List.length_range] at this
          omega
      rw [decide_eq_true h] at ht
      obtain ⟨c, y5, ok, e1⟩ := deal_one n n0 n1 (k : Int) (by omega) (by omega) (.va (.int many)) (l.map cdD) x5 x6 dealB2
      -- what is drawn in the end
      obtain ⟨c', e2, ok', h60⟩ : ∃ c', dealB2 [.va (.int n), .va (.int many), .ow (l.map cdD), .va (.int (n % 4)), .va (.int k), y5, .va (cdD c)] =
          (cIfS (cT1 asB (c2 ninD (cV 6) (cO 2))) (cApp 2 (cV 6)) cNext) [.va (.int n), .va (.int many), .ow (l.map cdD), .va (.int (n % 4)), .va (.int ((k + 1 : Nat) : Int)), y5, .va (cdD c')] ∧ CdOk c' ∧ (61 ≤ k + 1 → c' = wayC (k + 1)) := by
        by_cases h6 : 61 ≤ k + 1
        · refine ⟨wayC (k + 1), ?_, way_ok _, fun _ => rfl⟩
          refine s_set (d := .int ((k + 1 : Nat) : Int)) rfl ?_
          refine s_ifT (eT (e2 rfl rfl rfl) ?_) ?_
          · show some (decide ((60 : Int) < ((k + 1 : Nat) : Int))) = _
            exact congrArg some (decide_eq_true (by omega))
          · refine s_set (d := cdD (wayC (k + 1))) ?_ rfl
            show _ = some (PyData.tuple [.int (1 + ((k + 1 : Nat) : Int) % 13), .int (((k + 1 : Nat) : Int) / 13 % 4)])
            walk_at "ev"
        · refine ⟨c, ?_, ok, fun z => absurd z h6⟩
          refine s_set (d := .int ((k + 1 : Nat) : Int)) rfl ?_
          refine s_ifF (eT (e2 rfl rfl rfl) ?_) (s_next rfl)
          show some (decide ((60 : Int) < ((k + 1 : Nat) : Int))) = _
          exact congrArg some (decide_eq_false (by omega))
      have hin := nin_cdL c' l
      by_cases hi : c' ∈ l
      · rw [decide_eq_true hi] at hin
        obtain ⟨l', y4, y5', y6, ih, r⟩ := deal_loop n n0 n1 many hm f (k + 1) l y5 (.va (cdD c')) (by omega) (by omega) hd hc hl (fun j j0 j1 => by
          by_cases z : j = k + 1
          · subst z; rw [← h60 (by omega)]; exact hi
          · exact hw j j0 (by omega))
        refine ⟨l', y4, y5', y6, (while_T ht ?_).trans ih, r⟩
        rw [e1, e2]
        exact i_F (eT (_root_.G.e2 rfl rfl hin) rfl) rfl
      · rw [decide_eq_false hi] at hin
        obtain ⟨l', y4, y5', y6, ih, r⟩ := deal_loop n n0 n1 many hm f (k + 1) (l ++ [c']) y5 (.va (cdD c')) (by omega) (by omega) (by
            rw [List.nodup_append]
            exact ⟨hd, by simp, fun a ha b hb e => by have : b = c' := by simpa using hb
                                                      subst this; subst e; exact hi ha⟩) (by
            intro x hx
            rcases List.mem_append.mp hx with hx | hx
            · exact hc x hx
            · have : x = c' := by simpa using hx
              subst this; exact ok') (by simp; omega) (fun j j0 j1 => by
          by_cases z : j = k + 1
          · subst z; rw [← h60 (by omega)]; simp
          · exact List.mem_append_left _ (hw j j0 (by omega)))
        refine ⟨l', y4, y5', y6, (while_T ht ?_).trans ih, r⟩
        rw [e1, e2]
        refine i_T (eT (_root_.G.e2 rfl rfl hin) rfl) ?_
        rw [List.map_append]
        exact app_nx (ds := l.map cdD) rfl rfl (lim_of (by rw [List.length_map]; omega))
    · rw [decide_eq_false h] at ht
      exact ⟨l, _, x5, x6, while_F ht, hd, hc, by omega⟩
theorem deal_ok {n : Int} (n0 : 0 ≤ n) (n1 : n < 2147483629) {many : Nat} (hm : many ≤ 52) : ∃ l : List Cd, F_law_deal [.int n, .int many] = some (cdT l) ∧ l.Nodup ∧ (∀ c ∈ l, CdOk c) ∧ l.length = many := by
  obtain ⟨l, y4, y5, y6, h, r⟩ := deal_loop n n0 n1 many hm 200 0 [] .no .no rfl (by decide) List.nodup_nil (fun c h => nomatch h) (Nat.zero_le _) (fun j a b => absurd b (by omega))
  refine ⟨l, ?_, r⟩
  rw [F_law_deal_def]
  apply run_rt
  show B_law_deal [.va (.int n), .va (.int many), .no, .no, .no, .no, .no] = _
  unfold B_law_deal
  walk_at "st"
  walk_at "st"
  walk_at "st"
  refine s_nx h ?_
  refine s_frz rfl ?_
  exact r_ret (d := cdT l) (eC (eCons rfl rfl) rfl) rfl
theorem len_cdT (l : List Cd) : lenD [cdT l] = some (.int (l.length : Nat)) := by
  show some (PyData.int ((l.map cdD).length : Nat)) = _
  rw [List.length_map]
theorem ix_cdT {l : List Cd} {j : Nat} {c : Cd} (e : l[j]? = some c) : ixD (cdT l) (.int (j : Nat)) = some (cdD c) := L2.atI_nat (by rw [List.getElem?_map, e]; rfl)

/-! ### sorting ints and cards -/
theorem isort_perm (ns : List Int) : (isort ns).Perm ns := List.mergeSort_perm _ _
theorem isort_le (ns : List Int) : (isort ns).Pairwise (· ≤ ·) := by
  have h2 : (isort ns).Pairwise (fun a b => (decide (a ≤ b)) = true) := List.pairwise_mergeSort (fun a b c h1 h2 => by simp at *; omega) (fun a b => by simp; omega) ns
  exact h2.imp fun h => by simpa using h
theorem isort_same {ns ms : List Int} (h : ns.Perm ms) : isort ns = isort ms := isort_of ((isort_perm ns).trans h) (isort_le ns)
theorem canLay_ints (ns : List Int) : PyData.canLayAll0 (ns.map PyData.int) = true := by
  induction ns with
  | nil => rfl
  | cons a l ih =>
    rw [List.map_cons]
    simp only [PyData.canLayAll0, Bool.and_eq_true]
    exact ⟨rfl, ih⟩
theorem okSort_ints (ns : List Int) : okSort (ns.map PyData.int) = true := by
  unfold okSort
  rw [Bool.and_eq_true, Bool.and_eq_true, Bool.and_eq_true]
  refine ⟨canLay_ints ns, ⟨?_, ?_⟩, ?_⟩
  · rw [List.all_map, List.all_eq_true]
    intro a _
    show ((ns.map PyData.int).all _) = true
    rw [List.all_map, List.all_eq_true]
    intro b _
    simp [PySem.W.alike]
  · rw [List.all_map, List.all_eq_true]
    intro a _
    rfl
  · rw [Bool.or_eq_true, Bool.or_eq_true]
    refine .inl (.inr ?_)
    rw [List.all_map, List.all_eq_true]
    intro a _
    rfl
theorem dsort_ints (ns : List Int) : dsort (ns.map PyData.int) = (isort ns).map PyData.int := by
  unfold dsort isort
  symm
  refine List.map_mergeSort fun a _ b _ => ?_
  have := congrFun (congrFun (PySem.W.dataLe_int (fun x : Int => x)) a) b
  exact this.symm
theorem sortedL_ints (ns : List Int) : sortedD [.list (ns.map PyData.int)] = some (.list ((isort ns).map PyData.int)) := by
  show (if okSort (ns.map PyData.int) = true then some (PyData.list (dsort (ns.map PyData.int))) else none) = _
  rw [if_pos (okSort_ints ns), dsort_ints]
theorem sortedT_ints (ns : List Int) : sortedD [.tuple (ns.map PyData.int)] = some (.list ((isort ns).map PyData.int)) := by
  show (if okSort (ns.map PyData.int) = true then some (PyData.list (dsort (ns.map PyData.int))) else none) = _
  rw [if_pos (okSort_ints ns), dsort_ints]
/-- enumerate -/
theorem enL_map {α : Type} (enc : α → D) : ∀ (l : List α) (n : Nat), enL n (l.map enc) = (l.zipIdx n).map fun p => .tuple [.int (p.2 : Nat), enc p.1]
  | [], _ => rfl
  | a :: l, n => by
    show PyData.tuple [.int (n : Nat), enc a] :: enL (n + 1) (l.map enc) = _
    rw [enL_map enc l (n + 1)]; rfl
theorem ed_len : ∀ (n : Nat) (l : List Int), l.length ≤ n → l.eraseDups.length ≤ l.length ∧ (l.eraseDups.length = l.length ↔ l.Nodup)
  | _, [], _ => by simp
  | 0, _ :: _, h => absurd h (by simp)
  | n + 1, a :: l, h => by
    have h' : l.length ≤ n := by simpa using h
    rw [List.eraseDups_cons]
    have hf : (l.filter fun b => !(b == a)).length ≤ l.length := List.length_filter_le _ _
    obtain ⟨i1, i2⟩ := ed_len n (l.filter fun b => !(b == a)) (by omega)
    rw [List.length_cons, List.length_cons, List.nodup_cons]
    refine ⟨by omega, fun e => ?_, fun ⟨e1, e2⟩ => ?_⟩
    · have hl : (l.filter fun b => !(b == a)).length = l.length := by omega
      have hfe : l.filter (fun b => !(b == a)) = l := List.filter_sublist.eq_of_length hl
      rw [hfe] at i2
      refine ⟨fun ha => ?_, i2.mp (by rw [hfe] at e; omega)⟩
      rw [← hfe] at ha
      have := (List.mem_filter.mp ha).2
      simp at this
    · have hfe : l.filter (fun b => !(b == a)) = l := List.filter_eq_self.mpr fun b hb => by
        have : b ≠ a := fun z => e1 (z ▸ hb)
        simpa using this
      rw [hfe] at i2 ⊢
      have := i2.mpr e2
      omega
/-! ### runs -/
def runB (rs : List Int) : Bool := (isort rs).zipIdx.all fun p => decide (p.1 = (isort rs).headD 0 + (p.2 : Nat))
theorem runB_same {ns ms : List Int} (h : ns.Perm ms) : runB ns = runB ms := by unfold runB; rw [isort_same h]
theorem lt_gap : ∀ (s : List Int), s.Pairwise (· < ·) → ∀ (i k : Nat) (x y : Int), s[i]? = some x → s[i + k]? = some y → x + k ≤ y
  | s, hs, i, 0, x, y, hx, hy => by
    rw [Nat.add_zero, hx] at hy; cases hy; simp
  | s, hs, i, k + 1, x, y, hx, hy => by
    have hlen : i + (k + 1) < s.length := (List.getElem?_eq_some_iff.mp hy).1
    obtain ⟨z, hz⟩ : ∃ z, s[i + k]? = some z := ⟨_, List.getElem?_eq_getElem (by omega)⟩
    have := lt_gap s hs i k x z hx hz
    have h2 := List.pairwise_iff_getElem.mp hs (i + k) (i + (k + 1)) (by omega) hlen (by omega)
    have e1 := (List.getElem?_eq_some_iff.mp hz).2
    have e2 := (List.getElem?_eq_some_iff.mp hy).2
    rw [e1, e2] at h2
    push_cast; omega
theorem runB_iff {rs : List Int} (h0 : rs ≠ []) : ∃ mx mn, maxL rs = some mx ∧ minL rs = some mn ∧ (runB rs = true ↔ rs.eraseDups.length = rs.length ∧ mx - mn = (rs.length : Int) - 1) := by
  have hp := isort_perm rs
  have hs := isort_le rs
  obtain ⟨s, es⟩ : ∃ s, s = isort rs := ⟨_, rfl⟩
  rw [← es] at hp hs
  have hlen : s.length = rs.length := hp.length_eq
  have hpos : 0 < s.length := by rw [hlen]; exact List.length_pos_iff.mpr h0
  have hm0 : s[0] ∈ rs := hp.mem_iff.mp (List.getElem_mem _)
  have hm1 : s[s.length - 1] ∈ rs := hp.mem_iff.mp (List.getElem_mem _)
  have hle : ∀ i j (hi : i < s.length) (hj : j < s.length), i ≤ j → s[i] ≤ s[j] := fun i j hi hj h => by
    rcases Nat.lt_or_ge i j with z | z
    · exact List.pairwise_iff_getElem.mp hs i j hi hj z
    · have : i = j := by omega
      subst this; exact Int.le_refl _
  have hmn : minL rs = some s[0] := minL_of hm0 fun y hy => by
    obtain ⟨i, hi, rfl⟩ := List.getElem_of_mem (hp.mem_iff.mpr hy)
    exact hle 0 i hpos hi (Nat.zero_le _)
  have hmx : maxL rs = some s[s.length - 1] := maxL_of hm1 fun y hy => by
    obtain ⟨i, hi, rfl⟩ := List.getElem_of_mem (hp.mem_iff.mpr hy)
    exact hle i _ hi (by omega) (by omega)
  refine ⟨_, _, hmx, hmn, ?_⟩
  have hhead : s.headD 0 = s[0] := by
    cases s with
    | nil => simp at hpos
    | cons a l => rfl
  have hr : runB rs = true ↔ ∀ i (hi : i < s.length), s[i] = s[0] + (i : Nat) := by
    unfold runB
    rw [← es, List.all_eq_true, hhead]
    constructor
    · intro h i hi
      have := h (s[i], i) (by rw [List.mem_zipIdx_iff_getElem?]; exact List.getElem?_eq_getElem hi)
      simpa using this
    · rintro h ⟨x, i⟩ hx
      rw [List.mem_zipIdx_iff_getElem?] at hx
      obtain ⟨hi, hx⟩ := List.getElem?_eq_some_iff.mp hx
      have := h i hi
      rw [hx] at this
      simpa using this
  rw [hr, (ed_len _ rs (Nat.le_refl _)).2, ← hp.nodup_iff]
  constructor
  · intro h
    refine ⟨?_, ?_⟩
    · rw [List.Nodup, List.pairwise_iff_getElem]
      intro i j hi hj hij e
      rw [h i hi, h j hj] at e
      omega
    · rw [h _ (by omega : s.length - 1 < s.length)]
      omega
  · rintro ⟨hn, hd⟩ i hi
    have hlt : s.Pairwise (· < ·) := by
      rw [List.pairwise_iff_getElem]
      intro i j hi hj hij
      have := hle i j hi hj (by omega)
      have hne := List.pairwise_iff_getElem.mp hn i j hi hj hij
      omega
    have g1 := lt_gap s hlt 0 i _ _ (List.getElem?_eq_getElem hpos) (by rw [Nat.zero_add]; exact List.getElem?_eq_getElem hi)
    have g2 := lt_gap s hlt i (s.length - 1 - i) _ _ (List.getElem?_eq_getElem hi) (by rw [show i + (s.length - 1 - i) = s.length - 1 by omega]; exact List.getElem?_eq_getElem (by omega))
    omega

/-! ### sorting cards and rows of cards -/
theorem eq_self {d : D} (h : SeqAt.shaped d = true) : eqD d d = some (.bool true) := by
  unfold eqD
  rw [if_pos ⟨h, h⟩, PySem.SeqAt.eqv_refl_plain d (PyData.plain_of_canLay0 d (SeqAt.canLay_of_shaped h))]
theorem ne_self {d : D} (h : SeqAt.shaped d = true) : neD d d = some (.bool false) := by
  unfold neD
  rw [if_pos ⟨h, h⟩, PySem.SeqAt.eqv_refl_plain d (PyData.plain_of_canLay0 d (SeqAt.canLay_of_shaped h))]; rfl
def leC (p q : Cd) : Bool := decide (p.1 < q.1 ∨ (p.1 = q.1 ∧ p.2 ≤ q.2))
def cdsort (l : List Cd) : List Cd := l.mergeSort leC
theorem cdsort_perm (l : List Cd) : (cdsort l).Perm l := List.mergeSort_perm _ _
theorem leC_tr (a b c : Cd) (h1 : leC a b = true) (h2 : leC b c = true) : leC a c = true := by
  unfold leC at *; simp only [decide_eq_true_eq] at *; omega
theorem leC_tot (a b : Cd) : (leC a b || leC b a) = true := by
  unfold leC; rw [Bool.or_eq_true]; simp only [decide_eq_true_eq]; omega
theorem leC_anti {a b : Cd} (h1 : leC a b = true) (h2 : leC b a = true) : a = b := by
  unfold leC at *; simp only [decide_eq_true_eq] at *
  exact Prod.ext (by omega) (by omega)
theorem cdsort_le (l : List Cd) : (cdsort l).Pairwise fun a b => leC a b = true := List.pairwise_mergeSort leC_tr leC_tot l
theorem cdsort_of {l m : List Cd} (h : m.Perm l) (hs : m.Pairwise fun a b => leC a b = true) : m = cdsort l :=
  List.Perm.eq_of_pairwise (le := fun a b => leC a b = true) (fun _ _ _ _ h1 h2 => leC_anti h1 h2) hs (cdsort_le l) (h.trans (cdsort_perm l).symm)
theorem cdsort_same {l m : List Cd} (h : l.Perm m) : cdsort l = cdsort m := cdsort_of ((cdsort_perm l).trans h) (cdsort_le l)
theorem alike_cd (a b : Cd) : PySem.W.alike (cdD a) (cdD b) = true := by simp [cdD, PySem.W.alike, PySem.W.alikeAll]
theorem alikeAll_cds : ∀ (l m : List Cd), PySem.W.alikeAll (l.map cdD) (m.map cdD) = true
  | [], _ => by simp [PySem.W.alikeAll]
  | _ :: _, [] => by simp [PySem.W.alikeAll]
  | a :: l, b :: m => by
    rw [List.map_cons, List.map_cons]
    simp only [PySem.W.alikeAll, Bool.and_eq_true]
    exact ⟨alike_cd a b, alikeAll_cds l m⟩
theorem okSort_cds (l : List Cd) : okSort (l.map cdD) = true := by
  unfold okSort
  rw [Bool.and_eq_true, Bool.and_eq_true, Bool.and_eq_true]
  refine ⟨canLay_cds l, ⟨?_, ?_⟩, ?_⟩
  · rw [List.all_map, List.all_eq_true]
    intro a _
    show ((l.map cdD).all _) = true
    rw [List.all_map, List.all_eq_true]
    intro b _
    exact alike_cd a b
  · rw [List.all_map, List.all_eq_true]
    intro a _
    have := depth_cd a
    exact decide_eq_true (by omega)
  · rw [Bool.or_eq_true, Bool.or_eq_true]
    refine .inl (.inl ?_)
    rw [List.all_map, List.all_eq_true]
    intro a _
    rfl
theorem dsort_cds (l : List Cd) : dsort (l.map cdD) = (cdsort l).map cdD := by
  unfold dsort cdsort
  symm
  refine List.map_mergeSort fun a _ b _ => ?_
  have := congrFun (congrFun (PySem.W.dataLe_ii (fun x : Cd => x.1) (fun x : Cd => x.2)) a) b
  exact this.symm
theorem sorted_cdT (l : List Cd) : sortedD [cdT l] = some (cdL (cdsort l)) := by
  show (if okSort (l.map cdD) = true then some (PyData.list (dsort (l.map cdD))) else none) = _
  rw [if_pos (okSort_cds l), dsort_cds]; rfl
theorem sorted_cdL (l : List Cd) : sortedD [cdL l] = some (cdL (cdsort l)) := by
  show (if okSort (l.map cdD) = true then some (PyData.list (dsort (l.map cdD))) else none) = _
  rw [if_pos (okSort_cds l), dsort_cds]; rfl

/-! ### texts of cards -/
abbrev rkT : Str := "a23456789tjqk"
abbrev suT : Str := "cdhs"
def rkL : List Nat := [97, 50, 51, 52, 53, 54, 55, 56, 57, 116, 106, 113, 107]
def suL : List Nat := [99, 100, 104, 115]
theorem rk_tl : TL.tl rkT = rkL := by decide +kernel
theorem su_tl : TL.tl suT = suL := by decide +kernel
def rkC (r : Int) : Nat := (rkL[(r - 1).toNat]?).getD 0
def suC (s : Int) : Nat := (suL[s.toNat]?).getD 0
def sg (c : Nat) : Str := ⟨#[c]⟩
def cdS (c : Cd) : Str := ⟨#[rkC c.1, suC c.2]⟩
theorem ix_str {t : Str} {l : List Nat} (h : TL.tl t = l) (hl : l.length ≤ 1000) {i : Nat} {c : Nat} (e : l[i]? = some c) : ixD (.str t) (.int (i : Nat)) = some (.str (sg c)) := by
  have hlen : t.length = l.length := by rw [TL.len_tl, h]
  show (if t.length ≤ lim then (L2.atI t.cps.toList (i : Nat)).bind fun c => some (PyData.str ⟨#[c]⟩) else none) = _
  rw [if_pos (show t.length ≤ lim from Nat.le_of_lt (lim_of (by omega)))]
  rw [show t.cps.toList = l from h, L2.atI_nat e]; rfl
theorem rk_ix {r : Int} (h0 : 1 ≤ r) (h1 : r ≤ 13) : ixD (.str rkT) (.int (r - 1)) = some (.str (sg (rkC r))) := by
  obtain ⟨k, ek, hk⟩ : ∃ k : Nat, r - 1 = k ∧ k < 13 := ⟨(r - 1).toNat, by omega, by omega⟩
  unfold rkC
  rw [ek]
  refine ix_str rk_tl (by decide) ?_
  rw [show ((k : Nat) : Int).toNat = k from rfl]
  have : k < rkL.length := hk
  rw [List.getElem?_eq_getElem this]; rfl
theorem su_ix {s : Int} (h0 : 0 ≤ s) (h1 : s < 4) : ixD (.str suT) (.int s) = some (.str (sg (suC s))) := by
  obtain ⟨k, ek, hk⟩ : ∃ k : Nat, s = k ∧ k < 4 := ⟨s.toNat, by omega, by omega⟩
  unfold suC
  rw [ek]
  refine ix_str su_tl (by decide) ?_
  rw [show ((k : Nat) : Int).toNat = k from rfl]
  have : k < suL.length := hk
  rw [List.getElem?_eq_getElem this]; rfl
theorem add_sg (a b : Nat) : addD (.str (sg a)) (.str (sg b)) = some (.str ⟨#[a, b]⟩) := by
  show (if 1 + 1 ≤ lim then some (PyData.str (sg a ++ sg b)) else none) = _
  rw [if_pos (show 1 + 1 ≤ lim by decide)]; rfl
/-- the text of a card, wherever it is made -/
theorem card_test {ρ : Ev} {f : EF} {c : Cd} (hf : f ρ = some (cdD c)) (h : CdOk c) : c2 addD (c2 ixD (cC (.str rkT)) (c2 subD (c2 ixD f (cC (.int 0))) (cC (.int 1)))) (c2 ixD (cC (.str suT)) (c2 ixD f (cC (.int 1)))) ρ = some (.str (cdS c)) :=
  e2 (e2 rfl (e2 (e2 hf rfl rfl) rfl rfl) (rk_ix h.1 h.2.1)) (e2 rfl (e2 hf rfl rfl) (su_ix h.2.2.1 h.2.2.2)) (add_sg _ _)
theorem card_text_ok {c : Cd} (h : CdOk c) : F_card_text [cdD c] = some (.str (cdS c)) := by
  rw [F_card_text_def]
  apply run_rt
  show B_card_text [.va (cdD c)] = _
  unfold B_card_text
  exact r_ret (card_test rfl h) rfl
theorem join_one (y x : Str) : Txt.join y [x] = x := by rw [TL.join_eq]; rfl
def wrS (l : List Cd) : Str := if l = [] then "-" else Txt.join " " (l.map cdS)
theorem join_strs {ys : List Str} (h : ys.length ≤ 1000) (h2 : ∀ y ∈ ys, y.length ≤ 10) : joinD (.str " ") (.list (ys.map PyData.str)) = some (.str (Txt.join " " ys)) := by
  show (strsD _).bind _ = _
  rw [strs_map]
  refine if_pos ?_
  have h3 : (ys.map (·.length)).sum ≤ ys.length * 10 := by
    clear h
    induction ys with
    | nil => simp
    | cons y ys ih =>
      have := ih fun z hz => h2 z (List.mem_cons_of_mem _ hz)
      have := h2 y List.mem_cons_self
      rw [List.map_cons, List.sum_cons, List.length_cons]; omega
  have h4 : ((" " : Str)).length = 1 := by decide +kernel
  rw [h4]
  show _ ≤ 16777216
  omega
theorem written_ok {l : List Cd} (h : ∀ c ∈ l, CdOk c) (hl : l.length ≤ 100) : F_written [cdT l] = some (.str (wrS l)) := by
  rw [F_written_def]
  apply run_rt
  show B_written [.va (cdT l), .no] = _
  unfold B_written
  have t1 : cT1 asB (c2 eqD (cCall lenD (cCons (cV 0) cNil)) (cC (.int 0))) [.va (cdT l), .no] = some (decide ((l.length : Int) = 0)) := eT (e2 (eC (eCons rfl rfl) (len_cdT l)) rfl (eq_int _ _)) rfl
  unfold wrS
  by_cases h0 : l = []
  · subst h0
    exact s_ifT t1 (s_ret (d := .str "-") rfl rfl)
  · have : l.length ≠ 0 := fun z => h0 (List.length_eq_zero_iff.mp z)
    rw [decide_eq_false (by omega)] at t1
    rw [if_neg h0]
    refine s_ifF t1 (s_next (r_ret (d := .str (Txt.join " " (l.map cdS))) (e2 (d := .str " ") (e := .list ((l.map cdS).map PyData.str)) rfl ?_ (join_strs (by rw [List.length_map]; omega) ?_)) rfl))
    · refine (eLcA (l := l) (enc := cdD) (out := fun c => .str (cdS c)) (eItT rfl) (by omega) fun c hc => ⟨_, rfl, eC (ds := [cdD c]) (eArgs (eCons rfl rfl) rfl) (card_text_ok (h c hc))⟩).trans ?_
      rw [List.map_map]; rfl
    · intro y hy
      obtain ⟨c, _, rfl⟩ := List.mem_map.mp hy
      show 2 ≤ 10
      decide
/-! reading -/
theorem len_cdS (c : Cd) : lenD [.str (cdS c)] = some (.int 2) := by
  show (if (cdS c).length ≤ lim then some (PyData.int ((cdS c).length : Nat)) else none) = _
  rw [if_pos (show (cdS c).length ≤ lim from (by decide : 2 ≤ 16777216))]; rfl
theorem nin_sg {c : Nat} {t : Str} {l : List Nat} (h : TL.tl t = l) : ninSD (.str (sg c)) (.str t) = some (.bool (!decide (c ∈ l))) := by
  show (if h : (sg c).cps.size = 1 then some (PyData.bool (!decide ((sg c).cps[0] ∈ TL.tl t))) else none) = _
  rw [dif_pos (show (sg c).cps.size = 1 from rfl), h]; rfl
theorem in_sg {c : Nat} {t : Str} {l : List Nat} (h : TL.tl t = l) : inSD (.str (sg c)) (.str t) = some (.bool (decide (c ∈ l))) := by
  show (if h : (sg c).cps.size = 1 then some (PyData.bool (decide ((sg c).cps[0] ∈ TL.tl t))) else none) = _
  rw [dif_pos (show (sg c).cps.size = 1 from rfl), h]; rfl
theorem rk_find : ∀ k : Fin 13, (Builtin.Str.occurrences rkT (sg ((rkL[k.val]?).getD 0)) 0 rkT.length 1).head? = some k.val := by decide +kernel
theorem su_find : ∀ k : Fin 4, (Builtin.Str.occurrences suT (sg ((suL[k.val]?).getD 0)) 0 suT.length 1).head? = some k.val := by decide +kernel
theorem sindex_of {t x : Str} {k : Nat} (h : (Builtin.Str.occurrences t x 0 t.length 1).head? = some k) : sindexD (.str t) (.str x) = some (.int (k : Nat)) := by
  show (match Builtin.Str.occurrences t x 0 t.length 1 with | i :: _ => some (PyData.int (i : Nat)) | [] => none) = _
  cases e : Builtin.Str.occurrences t x 0 t.length 1 with
  | nil => rw [e] at h; cases h
  | cons a l => rw [e] at h; cases h; rfl
/-- a word that is a card's: two signs of the two texts -/
def CdW (t : Str) (c : Cd) : Prop := CdOk c ∧ t = cdS c
theorem rk_mem {r : Int} (h0 : 1 ≤ r) (h1 : r ≤ 13) : rkC r ∈ rkL := by
  unfold rkC
  have : (r - 1).toNat < rkL.length := by show _ < 13; omega
  rw [List.getElem?_eq_getElem this]
  exact List.getElem_mem this
theorem su_mem {s : Int} (h0 : 0 ≤ s) (h1 : s < 4) : suC s ∈ suL := by
  unfold suC
  have : s.toNat < suL.length := by show _ < 4; omega
  rw [List.getElem?_eq_getElem this]
  exact List.getElem_mem this
theorem cdS_tl (c : Cd) : TL.tl (cdS c) = [rkC c.1, suC c.2] := rfl
theorem card_of_ok {c : Cd} (h : CdOk c) : F_card_of [.str (cdS c)] = some (cdD c) := by
  rw [F_card_of_def]
  apply run_rt
  show B_card_of [.va (.str (cdS c))] = _
  unfold B_card_of
  obtain ⟨h1, h2, h3, h4⟩ := h
  have x0 : c2 ixD (cV 0) (cC (.int 0)) [.va (.str (cdS c))] = some (.str (sg (rkC c.1))) := e2 rfl rfl (ix_str (i := 0) (cdS_tl c) (by simp) rfl)
  have x1 : c2 ixD (cV 0) (cC (.int 1)) [.va (.str (cdS c))] = some (.str (sg (suC c.2))) := e2 rfl rfl (ix_str (i := 1) (cdS_tl c) (by simp) rfl)
  refine s_ifF (or_F (eT (e2 (eC (eCons rfl rfl) (len_cdS c)) rfl (ne_int _ _)) rfl) (or_F (eT (e2 x0 rfl (nin_sg rk_tl)) ?_) (eT (e2 x1 rfl (nin_sg su_tl)) ?_))) (s_next ?_)
  · show some (!decide _) = _
    rw [decide_eq_true (rk_mem h1 h2)]; rfl
  · show some (!decide _) = _
    rw [decide_eq_true (su_mem h3 h4)]; rfl
  have i0 : sindexD (.str rkT) (.str (sg (rkC c.1))) = some (.int (c.1 - 1)) := by
    have := sindex_of (rk_find ⟨(c.1 - 1).toNat, by omega⟩)
    rw [Int.toNat_of_nonneg (by omega)] at this
    exact this
  have i1 : sindexD (.str suT) (.str (sg (suC c.2))) = some (.int c.2) := by
    have := sindex_of (su_find ⟨c.2.toNat, by omega⟩)
    rw [Int.toNat_of_nonneg (by omega)] at this
    exact this
  refine r_ret (d := cdD c) (eTup (eCons (d := .int c.1) (e2 (e2 rfl x0 i0) rfl ?_) (eCons (e2 rfl x1 i1) rfl)) (by simp)) rfl
  refine (add_int _ _).trans ?_
  rw [show c.1 - 1 + 1 = c.1 by omega]
/-! signs -/
theorem joinL_mem {S : List Nat} : ∀ {ps : List (List Nat)} {x : Nat}, x ∈ TL.joinL S ps → x ∈ S ∨ ∃ p ∈ ps, x ∈ p
  | [], x, h => by cases h
  | [p], x, h => .inr ⟨p, List.mem_cons_self, h⟩
  | p :: q :: r, x, h => by
    have h : x ∈ p ++ (S ++ TL.joinL S (q :: r)) := h
    rcases List.mem_append.mp h with h | h
    · exact .inr ⟨p, List.mem_cons_self, h⟩
    · rcases List.mem_append.mp h with h | h
      · exact .inl h
      · rcases joinL_mem h with h | ⟨z, hz, h⟩
        · exact .inl h
        · exact .inr ⟨z, List.mem_cons_of_mem _ hz, h⟩
theorem blank_tl : TL.tl (" " : Str) = [32] := by decide +kernel
theorem dash_tl : TL.tl ("-" : Str) = [45] := by decide +kernel
def Asc (t : Str) : Prop := ∀ x ∈ TL.tl t, 32 ≤ x ∧ x < 127
theorem rk_asc : ∀ x ∈ rkL, 32 < x ∧ x < 127 ∧ x ≠ 45 := by decide
theorem su_asc : ∀ x ∈ suL, 32 < x ∧ x < 127 ∧ x ≠ 45 := by decide
theorem cdS_asc {c : Cd} (h : CdOk c) : ∀ x ∈ TL.tl (cdS c), 32 < x ∧ x < 127 ∧ x ≠ 45 := by
  intro x hx
  rw [cdS_tl] at hx
  rcases List.mem_cons.mp hx with rfl | hx
  · exact rk_asc _ (rk_mem h.1 h.2.1)
  · rcases List.mem_cons.mp hx with rfl | hx
    · exact su_asc _ (su_mem h.2.2.1 h.2.2.2)
    · cases hx
theorem wrS_tl {l : List Cd} (h0 : l ≠ []) : TL.tl (wrS l) = TL.joinL [32] (l.map fun c => [rkC c.1, suC c.2]) := by
  unfold wrS
  rw [if_neg h0, TL.join_eq, TL.tl_join, blank_tl, List.map_map]; rfl
theorem wrS_asc {l : List Cd} (h : ∀ c ∈ l, CdOk c) : Asc (wrS l) := by
  intro x hx
  by_cases h0 : l = []
  · subst h0
    have : x ∈ TL.tl ("-" : Str) := hx
    rw [dash_tl] at this
    rw [List.mem_singleton.mp this]; decide
  · rw [wrS_tl h0] at hx
    rcases joinL_mem hx with hx | ⟨p, hp, hx⟩
    · rw [List.mem_singleton.mp hx]; decide
    · obtain ⟨c, hc, rfl⟩ := List.mem_map.mp hp
      have := cdS_asc (h c hc) x hx
      omega
theorem strOk_of {t : Str} (h : ∀ x ∈ TL.tl t, x < 1114112) : PyData.strOk t = true := by
  unfold PyData.strOk
  rw [Array.all_eq_true']
  intro x hx
  exact decide_eq_true (h x (Array.mem_toList_iff.mpr hx))
theorem asc_ok {t : Str} (h : Asc t) : PyData.strOk t = true := strOk_of fun x hx => by have := h x hx; omega
theorem shaped_str {t : Str} (h : PyData.strOk t = true) : SeqAt.shaped (.str t) = true := by
  show (PyData.canLay0 (.str t) && decide (PyData.depth (.str t) ≤ 64)) = true
  simp only [PyData.canLay0, PyData.depth, h, Bool.true_and]; rfl
theorem eq_strs {a b : Str} (ha : PyData.strOk a = true) (hb : PyData.strOk b = true) : eqD (.str a) (.str b) = some (.bool (decide (a = b))) := by
  unfold eqD
  rw [if_pos ⟨shaped_str ha, shaped_str hb⟩]; rfl
theorem joinL_two {S : List Nat} {p : List Nat} {ps : List (List Nat)} (h : 2 ≤ p.length) : 2 ≤ (TL.joinL S (p :: ps)).length := by
  cases ps with
  | nil => exact h
  | cons q r =>
    show 2 ≤ (p ++ (S ++ TL.joinL S (q :: r))).length
    rw [List.length_append]; omega
theorem joinL_len {S : List Nat} : ∀ ps : List (List Nat), (TL.joinL S ps).length ≤ (ps.map List.length).sum + ps.length * S.length
  | [] => by simp [TL.joinL]
  | [p] => by simp [TL.joinL]
  | p :: q :: r => by
    show (p ++ (S ++ TL.joinL S (q :: r))).length ≤ _
    have := joinL_len (S := S) (q :: r)
    rw [List.length_append, List.length_append, List.map_cons, List.sum_cons, List.length_cons (a := p), Nat.add_mul]
    omega
theorem wrS_len {l : List Cd} : (wrS l).length ≤ 3 * l.length + 1 := by
  by_cases h0 : l = []
  · subst h0; decide +kernel
  · rw [TL.len_tl, wrS_tl h0]
    have := joinL_len (S := [32]) (l.map fun c => [rkC c.1, suC c.2])
    have e : ((l.map fun c => [rkC c.1, suC c.2]).map List.length).sum = l.length * 2 := by
      rw [List.map_map]
      clear this h0
      induction l with
      | nil => rfl
      | cons a l ih => rw [List.map_cons, List.sum_cons, ih, List.length_cons]; show 2 + _ = _; omega
    rw [e, List.length_map] at this
    simp only [List.length_cons, List.length_nil] at this
    omega
theorem wr_dash {l : List Cd} (h0 : l ≠ []) : wrS l ≠ "-" := fun e => by
  have h1 := congrArg (fun t => (TL.tl t).length) e
  simp only [wrS_tl h0, dash_tl] at h1
  cases l with
  | nil => exact h0 rfl
  | cons c l =>
    have := joinL_two (S := [32]) (p := [rkC c.1, suC c.2]) (ps := l.map fun c => [rkC c.1, suC c.2]) (by simp)
    rw [List.map_cons] at h1
    rw [h1] at this
    simp at this
theorem split_wr {l : List Cd} (h : ∀ c ∈ l, CdOk c) (h0 : l ≠ []) (hl : l.length ≤ 1000) : splitD (.str (wrS l)) (.str " ") = some (.list ((l.map cdS).map PyData.str)) := by
  have e : Txt.split (wrS l) " " = l.map cdS := by
    unfold wrS
    rw [if_neg h0]
    refine TL.split_join blank_tl (by decide +kernel) (fun z => h0 (List.map_eq_nil_iff.mp z)) fun p hp => ?_
    obtain ⟨c, hc, rfl⟩ := List.mem_map.mp hp
    intro z
    have := cdS_asc (h c hc) 32 z
    omega
  have hb : (((" " : Str)).length == 0) = false := by decide +kernel
  show (if (((" " : Str)).length == 0) = false ∧ (wrS l).length + 2 ≤ lim then some (PyData.list ((Txt.split (wrS l) " ").map .str)) else none) = _
  have := wrS_len (l := l)
  rw [if_pos ⟨hb, Nat.le_of_lt (lim_of (by omega))⟩, e]
theorem isi_strB {d : D} (h : ∀ k, d ≠ .dict k) : isiD "str" d = some (.bool (match d with | .str _ => true | _ => false)) := by
  cases d <;> first | (exact absurd rfl (h _)) | simp [isiD]
theorem read_ok {l : List Cd} (h : ∀ c ∈ l, CdOk c) (hl : l.length ≤ 100) : F_read [.str (wrS l)] = some (cdT l) := by
  rw [F_read_def]
  apply run_rt
  show B_read [.va (.str (wrS l)), .no] = _
  unfold B_read
  refine s_ifF (not_1 (b := true) (eT (e1 (d := .str (wrS l)) rfl (isi_strB fun k z => by cases z)) rfl)) (s_next ?_)
  have t2 : cT1 asB (c2 eqD (cV 0) (cC (.str "-"))) [.va (.str (wrS l)), .no] = some (decide (wrS l = "-")) := eT (e2 rfl rfl (eq_strs (asc_ok (wrS_asc h)) (by decide +kernel))) rfl
  by_cases h0 : l = []
  · subst h0
    exact s_ifT (t2.trans (by decide +kernel)) (s_ret (d := .tuple []) (eTup rfl (by simp)) rfl)
  · rw [decide_eq_false (wr_dash h0)] at t2
    refine s_ifF t2 (s_next (r_ret (d := cdT l) (eC (ds := [cdL l]) (eCons ?_ rfl) rfl) rfl))
    refine (eLcA (l := l) (enc := fun c => .str (cdS c)) (out := cdD) (eIt (e2 rfl rfl ((split_wr h h0 (by omega)).trans (by rw [List.map_map]; rfl)))) (by omega) fun c hc => ⟨_, rfl, eC (ds := [.str (cdS c)]) (eArgs (eCons rfl rfl) rfl) (card_of_ok (h c hc))⟩)

/-! ### shapes -/
theorem eq_nil {ds : List D} (h : SeqAt.shaped (.list ds) = true) : eqD (.list ds) (.list []) = some (.bool (decide (ds = []))) := by
  unfold eqD
  rw [if_pos ⟨h, rfl⟩]
  cases ds with
  | nil => rfl
  | cons a l => simp [PyData.eqv, PyData.eqvAll]
theorem ne_nil {ds : List D} (h : SeqAt.shaped (.list ds) = true) : neD (.list ds) (.list []) = some (.bool (!decide (ds = []))) := by
  unfold neD
  rw [if_pos ⟨h, rfl⟩]
  cases ds with
  | nil => rfl
  | cons a l => simp [PyData.eqv, PyData.eqvAll]
theorem shaped_tup1 {ds : List D} (h : ∀ d ∈ ds, PyData.canLay0 d = true ∧ PyData.depth d ≤ 60) : SeqAt.shaped (.tuple ds) = true := by
  have q : PyData.canLayAll0 ds = true ∧ PyData.depthAll ds ≤ 60 := by
    induction ds with
    | nil => exact ⟨rfl, by simp [PyData.depthAll]⟩
    | cons a l ih =>
      obtain ⟨i1, i2⟩ := ih fun d hd => h d (List.mem_cons_of_mem _ hd)
      obtain ⟨a1, a2⟩ := h a List.mem_cons_self
      refine ⟨?_, ?_⟩
      · simp only [PyData.canLayAll0, Bool.and_eq_true]; exact ⟨a1, i1⟩
      · simp only [PyData.depthAll]; omega
  show (PyData.canLay0 (.tuple ds) && decide (PyData.depth (.tuple ds) ≤ 64)) = true
  simp only [PyData.canLay0, PyData.depth, q.1, Bool.true_and]
  exact decide_eq_true (by omega)

/-! ### reading any text -/
abbrev wCond (f : EF) : BF := (cOr (cT1 asB (c2 neD (cCall lenD (cCons f cNil)) (cC (.int 2)))) (cOr (cT1 asB (c2 ninSD (c2 ixD f (cC (.int 0))) (cC (.str "a23456789tjqk")))) (cT1 asB (c2 ninSD (c2 ixD f (cC (.int 1))) (cC (.str "cdhs"))))))
def isW (w : Str) : Prop := ∃ c, CdOk c ∧ w = cdS c
theorem mem_rk {a : Nat} (h : a ∈ rkL) : ∃ r : Int, 1 ≤ r ∧ r ≤ 13 ∧ rkC r = a := by
  obtain ⟨i, hi, e⟩ := List.getElem_of_mem h
  have hi' : i < 13 := hi
  refine ⟨(i : Int) + 1, by omega, by omega, ?_⟩
  unfold rkC
  rw [show ((i : Int) + 1 - 1).toNat = i by omega, List.getElem?_eq_getElem hi]
  exact e
theorem mem_su {a : Nat} (h : a ∈ suL) : ∃ s : Int, 0 ≤ s ∧ s < 4 ∧ suC s = a := by
  obtain ⟨i, hi, e⟩ := List.getElem_of_mem h
  have hi' : i < 4 := hi
  refine ⟨(i : Int), by omega, by omega, ?_⟩
  unfold suC
  rw [Int.toNat_natCast, List.getElem?_eq_getElem hi]
  exact e
theorem len_str {w : Str} (h : w.length ≤ 100000) : lenD [.str w] = some (.int (w.length : Nat)) := by
  show (if w.length ≤ lim then some (PyData.int (w.length : Nat)) else none) = _
  rw [if_pos (show w.length ≤ lim from Nat.le_of_lt (lim_of h))]
theorem w_good {ρ : Ev} {f : EF} {c : Cd} (hf : f ρ = some (.str (cdS c))) (h : CdOk c) : wCond f ρ = some false := by
  obtain ⟨h1, h2, h3, h4⟩ := h
  have x0 : c2 ixD f (cC (.int 0)) ρ = some (.str (sg (rkC c.1))) := e2 hf rfl (ix_str (i := 0) (cdS_tl c) (by simp) rfl)
  have x1 : c2 ixD f (cC (.int 1)) ρ = some (.str (sg (suC c.2))) := e2 hf rfl (ix_str (i := 1) (cdS_tl c) (by simp) rfl)
  refine or_F (eT (e2 (eC (eCons hf rfl) (len_cdS c)) rfl (ne_int _ _)) rfl) (or_F (eT (e2 x0 rfl (nin_sg rk_tl)) ?_) (eT (e2 x1 rfl (nin_sg su_tl)) ?_))
  · show some (!decide _) = _
    rw [decide_eq_true (rk_mem h1 h2)]; rfl
  · show some (!decide _) = _
    rw [decide_eq_true (su_mem h3 h4)]; rfl
theorem w_value {ρ : Ev} {f : EF} {c : Cd} (hf : f ρ = some (.str (cdS c))) (h : CdOk c) : cTup (cCons (c2 addD (c2 sindexD (cC (.str "a23456789tjqk")) (c2 ixD f (cC (.int 0)))) (cC (.int 1))) (cCons (c2 sindexD (cC (.str "cdhs")) (c2 ixD f (cC (.int 1)))) cNil)) ρ = some (cdD c) := by
  obtain ⟨h1, h2, h3, h4⟩ := h
  have x0 : c2 ixD f (cC (.int 0)) ρ = some (.str (sg (rkC c.1))) := e2 hf rfl (ix_str (i := 0) (cdS_tl c) (by simp) rfl)
  have x1 : c2 ixD f (cC (.int 1)) ρ = some (.str (sg (suC c.2))) := e2 hf rfl (ix_str (i := 1) (cdS_tl c) (by simp) rfl)
  have i0 : sindexD (.str rkT) (.str (sg (rkC c.1))) = some (.int (c.1 - 1)) := by
    have := sindex_of (rk_find ⟨(c.1 - 1).toNat, by omega⟩)
    rw [Int.toNat_of_nonneg (by omega)] at this
    exact this
  have i1 : sindexD (.str suT) (.str (sg (suC c.2))) = some (.int c.2) := by
    have := sindex_of (su_find ⟨c.2.toNat, by omega⟩)
    rw [Int.toNat_of_nonneg (by omega)] at this
    exact this
  refine eTup (eCons (d := .int c.1) (e2 (e2 rfl x0 i0) rfl ?_) (eCons (e2 rfl x1 i1) rfl)) (by simp)
  refine (add_int _ _).trans ?_
  rw [show c.1 - 1 + 1 = c.1 by omega]
theorem w_bad {ρ : Ev} {f : EF} {w : Str} (hf : f ρ = some (.str w)) (hl : w.length ≤ 100000) (h : ¬ isW w) : wCond f ρ = some true := by
  have hlen := TL.len_tl w
  have c0 : cT1 asB (c2 neD (cCall lenD (cCons f cNil)) (cC (.int 2))) ρ = some (!decide ((w.length : Int) = 2)) := eT (e2 (eC (eCons hf rfl) (len_str hl)) rfl (ne_int _ _)) rfl
  by_cases h2 : w.length = 2
  · rw [decide_eq_true (by omega)] at c0
    obtain ⟨a, b, e⟩ : ∃ a b, TL.tl w = [a, b] := by
      match ht : TL.tl w, (hlen ▸ h2 : (TL.tl w).length = 2) with
      | [a, b], _ => exact ⟨a, b, rfl⟩
    have x0 : c2 ixD f (cC (.int 0)) ρ = some (.str (sg a)) := e2 hf rfl (ix_str (i := 0) e (by simp) rfl)
    have x1 : c2 ixD f (cC (.int 1)) ρ = some (.str (sg b)) := e2 hf rfl (ix_str (i := 1) e (by simp) rfl)
    refine or_F c0 ?_
    have c1 : cT1 asB (c2 ninSD (c2 ixD f (cC (.int 0))) (cC (.str "a23456789tjqk"))) ρ = some (!decide (a ∈ rkL)) := eT (e2 x0 rfl (nin_sg rk_tl)) rfl
    by_cases ha : a ∈ rkL
    · rw [decide_eq_true ha] at c1
      refine or_F c1 ((eT (e2 x1 rfl (nin_sg su_tl)) rfl).trans ?_)
      show some (!decide _) = _
      by_cases hb : b ∈ suL
      · obtain ⟨r, r1, r2, r3⟩ := mem_rk ha
        obtain ⟨s, s1, s2, s3⟩ := mem_su hb
        refine absurd ⟨(r, s), ⟨r1, r2, s1, s2⟩, TL.ext_tl ?_⟩ h
        rw [e, cdS_tl, r3, s3]
      · rw [decide_eq_false hb]; rfl
    · rw [decide_eq_false ha] at c1
      exact or_T c1
  · rw [decide_eq_false (by omega)] at c0
    exact or_T c0
theorem rIf_T {t : BF} {R1 R2 : RF} {ρ : Ev} {o : Option Bool} (h : t ρ = some true) (k : R1 ρ = o) : rIf t R1 R2 ρ = o := by unfold rIf; rw [h]; exact k
theorem rIf_F {t : BF} {R1 R2 : RF} {ρ : Ev} {o : Option Bool} (h : t ρ = some false) (k : R2 ρ = o) : rIf t R1 R2 ρ = o := by unfold rIf; rw [h]; exact k
theorem card_of_bad {w : Str} (hl : w.length ≤ 100000) (h : ¬ isW w) : R_card_of [.str w] = some false := by
  rw [R_card_of_def]
  show RB_card_of [.va (.str w)] = _
  unfold RB_card_of
  exact rIf_T (w_bad rfl hl h) rfl
theorem card_of_calm {c : Cd} (h : CdOk c) : R_card_of [.str (cdS c)] = none := by
  rw [R_card_of_def]
  show RB_card_of [.va (.str (cdS c))] = _
  unfold RB_card_of
  exact rIf_F (w_good rfl h) rfl
/-! the words of a text -/
theorem spl_len : ∀ (L acc : List Nat), (TL.spl [32] 0 acc L).length ≤ L.length + 1
  | [], acc => by rw [TL.spl_nil]; simp
  | c :: r, acc => by
    cases h : TL.pre [32] (c :: r) with
    | true =>
      rw [TL.spl_hit h]
      have := spl_len r []
      show (acc :: TL.spl [32] 0 [] r).length ≤ _
      simp only [List.length_cons]; omega
    | false =>
      rw [TL.spl_miss h]
      have := spl_len r (acc ++ [c])
      simp only [List.length_cons]; omega
theorem spl_small : ∀ (L acc : List Nat) (p : List Nat), p ∈ TL.spl [32] 0 acc L → p.length ≤ acc.length + L.length
  | [], acc, p, h => by rw [TL.spl_nil] at h; rw [List.mem_singleton.mp h]; omega
  | c :: r, acc, p, h => by
    cases hh : TL.pre [32] (c :: r) with
    | true =>
      rw [TL.spl_hit hh] at h
      rcases List.mem_cons.mp h with h | h
      · subst h; omega
      · have := spl_small r [] p h
        simp only [List.length_nil, List.length_cons] at this ⊢; omega
    | false =>
      rw [TL.spl_miss hh] at h
      have := spl_small r (acc ++ [c]) p h
      simp only [List.length_append, List.length_cons, List.length_nil] at this ⊢; omega
theorem split_any {t : Str} (hl : t.length ≤ 1000) : splitD (.str t) (.str " ") = some (.list ((Txt.split t " ").map .str)) ∧ (Txt.split t " ").length ≤ 1001 ∧ (∀ w ∈ Txt.split t " ", w.length ≤ 1000) ∧ Txt.split t " " ≠ [] ∧ Txt.join " " (Txt.split t " ") = t := by
  have hb : (((" " : Str)).length == 0) = false := by decide +kernel
  have e := TL.split_spl t " " (by rw [blank_tl]; simp) (TL.kind_ok (by decide +kernel))
  rw [blank_tl] at e
  have ht := TL.len_tl t
  refine ⟨?_, ?_, fun w hw => ?_, fun z => ?_, ?_⟩
  · show (if (((" " : Str)).length == 0) = false ∧ t.length + 2 ≤ lim then some (PyData.list ((Txt.split t " ").map .str)) else none) = _
    rw [if_pos ⟨hb, Nat.le_of_lt (lim_of (by omega))⟩]
  · have h1 := congrArg List.length e
    rw [List.length_map] at h1
    have := spl_len (TL.tl t) []
    omega
  · have : TL.tl w ∈ TL.spl [32] 0 [] (TL.tl t) := by rw [← e]; exact List.mem_map.mpr ⟨w, hw, rfl⟩
    have := spl_small (TL.tl t) [] _ this
    rw [TL.len_tl]
    simp only [List.length_nil] at this; omega
  · rw [z] at e
    have h1 := congrArg List.length e
    have h2 : ∀ (L acc : List Nat), TL.spl [32] 0 acc L ≠ [] := by
      intro L
      induction L with
      | nil => intro acc h; rw [TL.spl_nil] at h; cases h
      | cons c r ih =>
        intro acc h
        cases hh : TL.pre [32] (c :: r) with
        | true => rw [TL.spl_hit hh] at h; cases h
        | false => rw [TL.spl_miss hh] at h; exact ih _ h
    exact h2 _ _ e.symm
  · exact (TL.join_eq _ _).trans (StrLaws.join_split t " ")
/-- what a text tells -/
theorem words_of (ws : List Str) : (∃ l : List Cd, ws = l.map cdS ∧ ∀ c ∈ l, CdOk c) ∨ ∃ pre w post, ws = pre ++ w :: post ∧ ¬ isW w ∧ ∃ l : List Cd, pre = l.map cdS ∧ ∀ c ∈ l, CdOk c := by
  induction ws with
  | nil => exact .inl ⟨[], rfl, fun _ h => nomatch h⟩
  | cons w ws ih =>
    by_cases hw : isW w
    · obtain ⟨c, hc, e⟩ := hw
      rcases ih with ⟨l, e1, h1⟩ | ⟨pre, x, post, e1, h1, l, e2, h2⟩
      · exact .inl ⟨c :: l, by rw [e, e1]; rfl, fun y hy => by
          rcases List.mem_cons.mp hy with rfl | hy
          · exact hc
          · exact h1 y hy⟩
      · exact .inr ⟨w :: pre, x, post, by rw [e1]; rfl, h1, c :: l, by rw [e, e2]; rfl, fun y hy => by
          rcases List.mem_cons.mp hy with rfl | hy
          · exact hc
          · exact h2 y hy⟩
    · exact .inr ⟨[], w, ws, rfl, hw, [], rfl, fun _ h => nomatch h⟩
theorem rLcL_hd {ρ ρ1 : Ev} {g : GF} {t : BF} {f : EF} {r : RF} {d : D} {ds : List D} {x : Bool} (h1 : g d ρ = some ρ1) (h2 : t ρ1 = some true) (h3 : r ρ1 = some x) : rLcL ρ g t f r (d :: ds) = some x := by
  simp only [rLcL, h1, Option.bind_some, h2, if_true, h3]
theorem rLcL_tl {ρ ρ1 : Ev} {g : GF} {t : BF} {f : EF} {r : RF} {d e : D} {ds : List D} {o : Option Bool} (h1 : g d ρ = some ρ1) (h2 : t ρ1 = some true) (h3 : r ρ1 = none) (h4 : f ρ1 = some e) (k : rLcL ρ g t f r ds = o) : rLcL ρ g t f r (d :: ds) = o := by
  simp only [rLcL, h1, Option.bind_some, h2, if_true, h3, h4, k]
theorem rLc_bad {s0 s1 : Sl} {x : Str} {post : List Str} (hx : x.length ≤ 1000) (hb : ¬ isW x) : ∀ (l : List Cd), (∀ c ∈ l, CdOk c) →
    rLcL [s0, s1] (gV 1) cYes (cCall F_card_of (cArgs 1 (cCons (cV 1) cNil))) (rCall R_card_of (cArgs 1 (cCons (cV 1) cNil))) ((l.map cdS ++ x :: post).map PyData.str) = some false
  | [], _ => rLcL_hd (ρ1 := [s0, .va (.str x)]) rfl rfl (card_of_bad (by omega) hb)
  | c :: l, h => rLcL_tl (ρ1 := [s0, .va (.str (cdS c))]) (e := cdD c) rfl rfl (card_of_calm (h c List.mem_cons_self)) (eC (ds := [.str (cdS c)]) (eArgs (eCons rfl rfl) rfl) (card_of_ok (h c List.mem_cons_self))) (rLc_bad hx hb l fun y hy => h y (List.mem_cons_of_mem _ hy))
theorem rLc_calm {s0 s1 : Sl} : ∀ (l : List Cd), (∀ c ∈ l, CdOk c) →
    rLcL [s0, s1] (gV 1) cYes (cCall F_card_of (cArgs 1 (cCons (cV 1) cNil))) (rCall R_card_of (cArgs 1 (cCons (cV 1) cNil))) ((l.map cdS).map PyData.str) = none
  | [], _ => rfl
  | c :: l, h => rLcL_tl (ρ1 := [s0, .va (.str (cdS c))]) (e := cdD c) rfl rfl (card_of_calm (h c List.mem_cons_self)) (eC (ds := [.str (cdS c)]) (eArgs (eCons rfl rfl) rfl) (card_of_ok (h c List.mem_cons_self))) (rLc_calm l fun y hy => h y (List.mem_cons_of_mem _ hy))
theorem rCons_tl {R1 R2 : RF} {F : SF} {ρ ρ1 : Ev} {o : Option Bool} (h0 : R1 ρ = none) (h : F ρ = some (.nx ρ1)) (k : R2 ρ1 = o) : rCons R1 F R2 ρ = o := by unfold rCons; rw [h0]; show rNx F R2 ρ = o; unfold rNx; rw [h]; exact k
theorem rNx_nx {F : SF} {R : RF} {ρ ρ1 : Ev} {o : Option Bool} (h : F ρ = some (.nx ρ1)) (k : R ρ1 = o) : rNx F R ρ = o := by unfold rNx; rw [h]; exact k
theorem rNx_rt {F : SF} {R : RF} {ρ : Ev} {d : D} (h : F ρ = some (.rt d)) : rNx F R ρ = none := by unfold rNx; rw [h]
theorem rLc_of {it : LF} {vs : List Nat} {g : GF} {t : BF} {f : EF} {r : RF} {ρ : Ev} {ds : List D} {o : Option Bool} (h : it ρ = some ds) (hl : ds.length ≤ 100000) (k : rLcL (wipeE ρ vs) g t f r ds = o) : rLc it vs g t f r ρ = o := by
  unfold rLc; rw [h]
  show (if ds.length ≤ lim then _ else none) = _
  rw [if_pos (show ds.length ≤ lim from Nat.le_of_lt (lim_of hl))]; exact k
/-- what reading makes of a text: cards, or a refusal -/
theorem read_gen {t : Str} (ha : Asc t) (hl : t.length ≤ 1000) : (∃ l : List Cd, (∀ c ∈ l, CdOk c) ∧ l.length ≤ 1001 ∧ wrS l = t ∧ F_read [.str t] = some (cdT l) ∧ R_read [.str t] = none) ∨
    (t ≠ "-" ∧ (∃ (pre : List Cd) (w : Str) (post : List Str), Txt.split t " " = pre.map cdS ++ w :: post ∧ ¬ isW w ∧ ∀ c ∈ pre, CdOk c) ∧ R_read [.str t] = some false) := by
  have t1 : ∀ s1 : Sl, cNot (cT1 asB (c1 (isiD "str") (cV 0))) [.va (.str t), s1] = some false := fun s1 => not_1 (b := true) (eT (e1 (d := .str t) rfl (isi_strB fun k z => by cases z)) rfl)
  have t2 : ∀ s1 : Sl, cT1 asB (c2 eqD (cV 0) (cC (.str "-"))) [.va (.str t), s1] = some (decide (t = "-")) := fun s1 => eT (e2 rfl rfl (eq_strs (asc_ok ha) (by decide +kernel))) rfl
  have n1 : rIf (cNot (cT1 asB (c1 (isiD "str") (cV 0)))) (rIt false) rNo [.va (.str t), .no] = none := by exact rIf_F (t1 _) rfl
  have f1 : cIfS (cNot (cT1 asB (c1 (isiD "str") (cV 0)))) cNever cNext [.va (.str t), .no] = some (.nx [.va (.str t), .no]) := i_F (t1 _) rfl
  by_cases h0 : t = "-"
  · refine .inl ⟨[], (fun _ h => nomatch h), by simp, h0.symm, ?_, ?_⟩
    · have := read_ok (l := []) (fun _ h => nomatch h) (by simp)
      rw [h0]; exact this
    · rw [R_read_def]
      show RB_read [.va (.str t), .no] = _
      unfold RB_read
      refine rCons_tl n1 f1 (rNx_rt (d := .tuple []) (i_T ((t2 _).trans (by rw [decide_eq_true h0])) (r_ret (eTup rfl (by simp)) rfl)))
  · have f2 : cIfS (cT1 asB (c2 eqD (cV 0) (cC (.str "-")))) (cRet (cTup cNil)) cNext [.va (.str t), .no] = some (.nx [.va (.str t), .no]) := i_F ((t2 _).trans (by rw [decide_eq_false h0])) rfl
    obtain ⟨hs, hsl, hw, hne, hj⟩ := split_any hl
    have rr : ∀ o, rLcL [.va (.str t), .no] (gV 1) cYes (cCall F_card_of (cArgs 1 (cCons (cV 1) cNil))) (rCall R_card_of (cArgs 1 (cCons (cV 1) cNil))) ((Txt.split t " ").map PyData.str) = o → R_read [.str t] = o := fun o k => by
      rw [R_read_def]
      show RB_read [.va (.str t), .no] = _
      unfold RB_read
      exact rCons_tl n1 f1 (rNx_nx f2 (rLc_of (eIt (e2 rfl rfl hs)) (by rw [List.length_map]; omega) k))
    rcases words_of (Txt.split t " ") with ⟨l, e, hc⟩ | ⟨pre, w, post, e, hb, l, e2', hc⟩
    · have hll : l.length ≤ 1001 := by rw [e, List.length_map] at hsl; exact hsl
      have hl0 : l ≠ [] := fun z => hne (by rw [e, z]; rfl)
      refine .inl ⟨l, hc, hll, ?_, ?_, rr _ (by rw [e]; exact rLc_calm l hc)⟩
      · unfold wrS; rw [if_neg hl0, ← e, hj]
      · rw [F_read_def]
        apply run_rt
        show B_read [.va (.str t), .no] = _
        unfold B_read
        refine s_ifF (t1 _) (s_next (s_ifF ((t2 _).trans (by rw [decide_eq_false h0])) (s_next (r_ret (d := cdT l) (eC (ds := [cdL l]) (eCons ?_ rfl) rfl) rfl))))
        refine (eLcA (l := l) (enc := fun c => .str (cdS c)) (out := cdD) (eIt (e2 rfl rfl (hs.trans (by rw [e, List.map_map]; rfl)))) (by omega) fun c hc' => ⟨_, rfl, eC (ds := [.str (cdS c)]) (eArgs (eCons rfl rfl) rfl) (card_of_ok (hc c hc'))⟩)
    · refine .inr ⟨h0, ⟨l, w, post, by rw [e, e2'], hb, hc⟩, rr _ ?_⟩
      rw [e, e2']
      exact rLc_bad (hw w (by rw [e]; exact List.mem_append_right _ List.mem_cons_self)) hb l hc

/-! ### is_card of any thing -/
def wholeB (d : D) (lo hi : Int) : Bool := match d with
  | .int i => decide (lo ≤ i) && decide (i ≤ hi)
  | _ => false
def icB (d : D) : Bool := match d with
  | .tuple [a, b] => wholeB a 1 13 && wholeB b 0 3
  | _ => false
def nd (d : D) : Bool := match d with
  | .dict _ => false
  | _ => true
def nd2 (d : D) : Bool := match d with
  | .dict _ => false
  | .tuple ds => ds.all nd
  | _ => true
def isTup (d : D) : Bool := match d with
  | .tuple _ => true
  | _ => false
theorem isi_tupB {d : D} (h : nd d = true) : isiD "tuple" d = some (.bool (isTup d)) := by
  cases d <;> first | (cases h; done) | simp [isiD, isTup]
def isIntB (d : D) : Bool := match d with
  | .int _ => true
  | .bool _ => true
  | _ => false
def isBoolB (d : D) : Bool := match d with
  | .bool _ => true
  | _ => false
theorem isi_intB {d : D} (h : nd d = true) : isiD "int" d = some (.bool (isIntB d)) := by
  cases d <;> first | (cases h; done) | simp [isiD, isIntB]
theorem isi_boolB {d : D} (h : nd d = true) : isiD "bool" d = some (.bool (isBoolB d)) := by
  cases d <;> first | (cases h; done) | simp [isiD, isBoolB]
theorem chn_le {ρ : Ev} {f h l : EF} {a b c : Int} (h1 : f ρ = some (.int a)) (h2 : h ρ = some (.int b)) (h3 : l ρ = some (.int c)) : cChn leD leD f h l ρ = some (.bool (decide (a ≤ b) && decide (b ≤ c))) := by
  unfold cChn
  rw [h1, h2]
  show (if decide (a ≤ b) = true then _ else _) = _
  by_cases q : a ≤ b
  · rw [if_pos (decide_eq_true q), h3, decide_eq_true q]; rfl
  · rw [if_neg (by rw [decide_eq_false q]; decide), decide_eq_false q]; rfl
theorem is_whole_ok {d : D} (h : nd d = true) (lo hi : Int) : F_is_whole [d, .int lo, .int hi] = some (.bool (wholeB d lo hi)) := by
  rw [F_is_whole_def]
  apply run_rt
  show B_is_whole [.va d, .va (.int lo), .va (.int hi)] = _
  unfold B_is_whole
  refine r_ret (d := .bool (wholeB d lo hi)) ?_ rfl
  have h1 : c1 (isiD "int") (cV 0) [.va d, .va (.int lo), .va (.int hi)] = some (.bool (isIntB d)) := e1 rfl (isi_intB h)
  have h2 : c1 notD (c1 (isiD "bool") (cV 0)) [.va d, .va (.int lo), .va (.int hi)] = some (.bool (!isBoolB d)) := e1 (e1 rfl (isi_boolB h)) rfl
  cases d with
  | int i => exact andV_T h1 (andV_T h2 (chn_le rfl rfl rfl))
  | bool b => exact andV_T h1 (andV_F h2)
  | _ => exact andV_F h1
theorem len_tup (ds : List D) : lenD [.tuple ds] = some (.int (ds.length : Nat)) := rfl
theorem ic_two {ds : List D} (h : icB (.tuple ds) = true) : ds.length = 2 := by
  match ds with
  | [] => cases h
  | [a] => cases h
  | [a, b] => rfl
  | a :: b :: c :: t => cases h
theorem is_card_ok {d : D} (h : nd2 d = true) : F_is_card [d] = some (.bool (icB d)) := by
  rw [F_is_card_def]
  apply run_rt
  show B_is_card [.va d] = _
  unfold B_is_card
  have hn : nd d = true := by cases d <;> first | rfl | exact h
  have h1 : cNot (cT1 asB (c1 (isiD "tuple") (cV 0))) [.va d] = some (!isTup d) := not_1 (eT (e1 rfl (isi_tupB hn)) rfl)
  cases d with
  | tuple ds =>
    have h2 : cT1 asB (c2 neD (cCall lenD (cCons (cV 0) cNil)) (cC (.int 2))) [.va (.tuple ds)] = some (!decide ((ds.length : Int) = 2)) := eT (e2 (eC (eCons rfl rfl) (len_tup ds)) rfl (ne_int _ _)) rfl
    by_cases q : ds.length = 2
    · rw [decide_eq_true (by omega)] at h2
      obtain ⟨a, b, rfl⟩ : ∃ a b, ds = [a, b] := by
        match ds, q with
        | [a, b], _ => exact ⟨a, b, rfl⟩
      have ha : nd a = true := by simp [nd2] at h; exact h.1
      have hb : nd b = true := by simp [nd2] at h; exact h.2
      refine s_ifF (or_F h1 h2) (s_next (r_ret (d := .bool (icB (.tuple [a, b]))) (andV_2 ?_ ?_) rfl))
      · exact eC (ds := [a, .int 1, .int 13]) (eArgs (eCons (e2 (d := .tuple [a, b]) (e := .int 0) rfl rfl rfl) (eCons rfl (eCons rfl rfl))) rfl) (is_whole_ok ha 1 13)
      · exact eC (ds := [b, .int 0, .int 3]) (eArgs (eCons (e2 (d := .tuple [a, b]) (e := .int 1) rfl rfl rfl) (eCons rfl (eCons rfl rfl))) rfl) (is_whole_ok hb 0 3)
    · rw [decide_eq_false (by omega)] at h2
      refine s_ifT (or_F h1 h2) (s_ret (d := .bool false) rfl ?_)
      cases e : icB (.tuple ds) with
      | false => rfl
      | true => exact absurd (ic_two e) q
  | dict _ => cases h
  | _ => exact s_ifT (or_T h1) (s_ret (d := .bool false) rfl rfl)

/-! ### law k04 -/
theorem shaped_ref0 : SeqAt.shaped (.tuple [.str "refused", .int 0]) = true := by decide +kernel
theorem add_str {a b : Str} (h : a.length + b.length ≤ 100000) : addD (.str a) (.str b) = some (.str (a ++ b)) := if_pos (show _ ≤ lim from Nat.le_of_lt (lim_of h))
theorem app_len (a b : Str) : (a ++ b).length = a.length + b.length := by rw [TL.len_tl, TL.tl_append, List.length_append, ← TL.len_tl, ← TL.len_tl]
theorem asc_app {a b : Str} (ha : Asc a) (hb : Asc b) : Asc (a ++ b) := fun x hx => by
  rw [TL.tl_append] at hx
  rcases List.mem_append.mp hx with h | h
  · exact ha x h
  · exact hb x h
theorem asc_cut {z : Str} (h : Asc z) (lo hi : Option Int) : Asc (L2.cutS z lo hi) := fun x hx => h x (List.mem_of_mem_drop (List.mem_of_mem_take hx))
theorem cut_len (z : Str) (lo hi : Option Int) : (L2.cutS z lo hi).length ≤ z.length := by
  rw [TL.len_tl, TL.len_tl]
  show ((z.cps.toList.drop _).take _).length ≤ z.cps.toList.length
  rw [List.length_take, List.length_drop]; omega
theorem sl_str {z : Str} (h : z.length ≤ 100000) (lo hi : Option Int) : slD (.str z) lo hi = some (.str (L2.cutS z lo hi)) := if_pos (show _ ≤ lim from Nat.le_of_lt (lim_of h))
def Few (t : Str) (n : Nat) : Prop := Asc t ∧ t.length ≤ n
def leT : Str := "a123456789tjqkcdhs- "
def leL : List Nat := [97, 49, 50, 51, 52, 53, 54, 55, 56, 57, 116, 106, 113, 107, 99, 100, 104, 115, 45, 32]
theorem le_tl : TL.tl leT = leL := by decide +kernel
theorem le_asc : ∀ x ∈ leL, 32 ≤ x ∧ x < 127 := by decide
theorem le_ix {i : Int} (h0 : 0 ≤ i) (h1 : i < 20) : ∃ c, ixD (.str leT) (.int i) = some (.str (sg c)) ∧ Asc (sg c) := by
  obtain ⟨k, rfl⟩ : ∃ k : Nat, i = k := ⟨i.toNat, by omega⟩
  have hk : k < leL.length := by show k < 20; omega
  refine ⟨leL[k], ix_str le_tl (by decide) (List.getElem?_eq_getElem hk), fun x hx => ?_⟩
  have : x = leL[k] := by simpa [sg, TL.tl] using hx
  rw [this]
  exact le_asc _ (List.getElem_mem hk)
/-! words and their lengths -/
def tot (ws : List Str) : Nat := (ws.map fun w => w.length + 1).sum
theorem tot_app (a b : List Str) : tot (a ++ b) = tot a + tot b := by unfold tot; rw [List.map_append, List.sum_append]
theorem tot_cut (ws : List Str) (r : Nat) : tot (ws.take r) + tot (ws.drop r) = tot ws := by rw [← tot_app, List.take_append_drop]
theorem tot_take (ws : List Str) (r : Nat) : tot (ws.take r) ≤ tot ws := by have := tot_cut ws r; omega
theorem tot_drop (ws : List Str) (r : Nat) : tot (ws.drop r) ≤ tot ws := by have := tot_cut ws r; omega
theorem joinL_tot : ∀ ps : List (List Nat), ps ≠ [] → (TL.joinL [32] ps).length + 1 = (ps.map fun p => p.length + 1).sum
  | [], h => absurd rfl h
  | [p], _ => by simp [TL.joinL]
  | p :: q :: r, _ => by
    have := joinL_tot (q :: r) (by simp)
    show (p ++ ([32] ++ TL.joinL [32] (q :: r))).length + 1 = _
    rw [List.map_cons, List.sum_cons, ← this, List.length_append, List.length_append, List.length_singleton]; omega
theorem tot_tl (ws : List Str) : tot ws = ((ws.map TL.tl).map fun p => p.length + 1).sum := by
  unfold tot
  rw [List.map_map]
  rfl
theorem join_tl (ws : List Str) : TL.tl (Txt.join " " ws) = TL.joinL [32] (ws.map TL.tl) := by rw [TL.join_eq, TL.tl_join, blank_tl]
theorem join_tot {ws : List Str} (h : ws ≠ []) : (Txt.join " " ws).length + 1 = tot ws := by
  rw [TL.len_tl, join_tl, tot_tl]
  exact joinL_tot _ (fun e => h (List.map_eq_nil_iff.mp e))
theorem join_le (ws : List Str) : (Txt.join " " ws).length ≤ tot ws := by
  by_cases h : ws = []
  · subst h
    rw [TL.len_tl, join_tl]; simp [TL.joinL]
  · have := join_tot h; omega
theorem join_asc {ws : List Str} (h : ∀ w ∈ ws, Asc w) : Asc (Txt.join " " ws) := fun x hx => by
  rw [join_tl] at hx
  rcases joinL_mem hx with hx | ⟨p, hp, hx⟩
  · rw [List.mem_singleton.mp hx]; decide
  · obtain ⟨w, hw, rfl⟩ := List.mem_map.mp hp
    exact h w hw x hx
theorem tot_sum (ws : List Str) : (ws.map (·.length)).sum + ws.length = tot ws := by
  unfold tot
  induction ws with
  | nil => rfl
  | cons w ws ih => simp only [List.map_cons, List.sum_cons, List.length_cons]; omega
theorem join_any {ws : List Str} (h : tot ws ≤ 100000) : joinD (.str " ") (.list (ws.map PyData.str)) = some (.str (Txt.join " " ws)) := by
  show (strsD _).bind _ = _
  rw [strs_map]
  have h4 : ((" " : Str)).length = 1 := by decide +kernel
  have := tot_sum ws
  refine if_pos ?_
  rw [h4]
  show _ ≤ 16777216
  omega
theorem spl_sub : ∀ (L acc p : List Nat) (x : Nat), p ∈ TL.spl [32] 0 acc L → x ∈ p → x ∈ acc ∨ x ∈ L
  | [], acc, p, x, h, hx => by rw [TL.spl_nil] at h; rw [List.mem_singleton.mp h] at hx; exact .inl hx
  | c :: r, acc, p, x, h, hx => by
    cases hh : TL.pre [32] (c :: r) with
    | true =>
      rw [TL.spl_hit hh] at h
      rcases List.mem_cons.mp h with h | h
      · subst h; exact .inl hx
      · rcases spl_sub r [] p x h hx with z | z
        · cases z
        · exact .inr (List.mem_cons_of_mem _ z)
    | false =>
      rw [TL.spl_miss hh] at h
      rcases spl_sub r (acc ++ [c]) p x h hx with z | z
      · rcases List.mem_append.mp z with z | z
        · exact .inl z
        · exact .inr (by rw [List.mem_singleton.mp z]; exact List.mem_cons_self)
      · exact .inr (List.mem_cons_of_mem _ z)
theorem split_asc {t : Str} (h : Asc t) : ∀ w ∈ Txt.split t " ", Asc w := fun w hw x hx => by
  have e := TL.split_spl t " " (by rw [blank_tl]; simp) (TL.kind_ok (by decide +kernel))
  rw [blank_tl] at e
  have : TL.tl w ∈ TL.spl [32] 0 [] (TL.tl t) := by rw [← e]; exact List.mem_map.mpr ⟨w, hw, rfl⟩
  rcases spl_sub _ _ _ x this hx with z | z
  · cases z
  · exact h x z
theorem cut_mid (ds : List D) (i k : Nat) (h0 : i ≤ k) (h1 : k ≤ ds.length) : cutL ds (some (i : Int)) (some (k : Int)) = (ds.drop i).take (k - i) := by
  unfold cutL
  rw [sIx_n _ (k : Int) (by omega) (by omega), sIx_n _ (i : Int) (by omega) (by omega), Int.toNat_natCast, Int.toNat_natCast]
theorem sl_to (l : List Str) (k : Nat) (h : k ≤ l.length) : slD (.list (l.map .str)) none (some (k : Int)) = some (.list ((l.take k).map .str)) := by
  show some (PyData.list (cutL (l.map .str) none (some (k : Int)))) = _
  rw [cut_take _ _ (by omega) (by rw [List.length_map]; omega), Int.toNat_natCast, ← List.map_take]
theorem sl_from (l : List Str) (k : Nat) (h : k ≤ l.length) : slD (.list (l.map .str)) (some (k : Int)) none = some (.list ((l.drop k).map .str)) := by
  show some (PyData.list (cutL (l.map .str) (some (k : Int)) none)) = _
  rw [cut_drop _ _ (by omega) (by rw [List.length_map]; omega), Int.toNat_natCast, ← List.map_drop]
theorem sl_mid (l : List Str) (i k : Nat) (h0 : i ≤ k) (h : k ≤ l.length) : slD (.list (l.map .str)) (some (i : Int)) (some (k : Int)) = some (.list (((l.drop i).take (k - i)).map .str)) := by
  show some (PyData.list (cutL (l.map .str) (some (i : Int)) (some (k : Int)))) = _
  rw [cut_mid _ i k h0 (by rw [List.length_map]; omega), ← List.map_drop, ← List.map_take]
theorem cat_strs (a b : List Str) (h : a.length + b.length ≤ 10000) : addD (.list (a.map PyData.str)) (.list (b.map .str)) = some (.list ((a ++ b).map .str)) := by
  rw [add_list (by rw [List.length_map, List.length_map]; omega), List.map_append]
theorem menu5 (a b c d e : Str) {i : Int} (h0 : 0 ≤ i) (h1 : i < 5) : ∃ x, ixD (.list [.str a, .str b, .str c, .str d, .str e]) (.int i) = some (.str x) ∧ (x = a ∨ x = b ∨ x = c ∨ x = d ∨ x = e) := by
  have h : i = 0 ∨ i = 1 ∨ i = 2 ∨ i = 3 ∨ i = 4 := by omega
  rcases h with rfl | rfl | rfl | rfl | rfl
  · exact ⟨a, rfl, .inl rfl⟩
  · exact ⟨b, rfl, .inr (.inl rfl)⟩
  · exact ⟨c, rfl, .inr (.inr (.inl rfl))⟩
  · exact ⟨d, rfl, .inr (.inr (.inr (.inl rfl)))⟩
  · exact ⟨e, rfl, .inr (.inr (.inr (.inr rfl)))⟩
theorem bent_ok {t : Str} {m : Nat} (h : Few t m) (hm : m ≤ 400) {q : Int} (q0 : 0 ≤ q) : ∃ t', Few t' (2 * m + 2) ∧ F_law_bent [.str t, .int q] = some (.str t') := by
  obtain ⟨ha, hl⟩ := h
  obtain ⟨p, ep⟩ : ∃ p : Int, p = q % ((t.length : Int) + 1) := ⟨_, rfl⟩
  obtain ⟨c, hc, hca⟩ := le_ix (i := q / 512 % 20) (by omega) (by omega)
  have hcl : (sg c).length = 1 := rfl
  obtain ⟨hs, hsl, hw, hne, hj⟩ := split_any (t := t) (by omega)
  obtain ⟨ws, ews⟩ : ∃ ws, ws = Txt.split t " " := ⟨_, rfl⟩
  have hwa : ∀ w ∈ ws, Asc w := by rw [ews]; exact split_asc ha
  rw [← ews] at hs hsl hw hne hj
  have htot : t.length + 1 = tot ws := by rw [← join_tot hne, hj]
  have hpos : 0 < ws.length := List.length_pos_iff.mpr hne
  obtain ⟨r, er⟩ : ∃ r : Nat, q / 16384 % (ws.length : Nat) = (r : Int) := ⟨(q / 16384 % (ws.length : Nat)).toNat, by have := Int.emod_nonneg (q / 16384) (b := (ws.length : Nat)) (by omega); omega⟩
  have hr : r < ws.length := by have := Int.emod_lt_of_pos (q / 16384) (b := (ws.length : Nat)) (by omega); omega
  have l1 := cut_len t none (some p)
  have l2 := cut_len t (some p) none
  have l3 := cut_len t (some (p + 1)) none
  have a1 := asc_cut ha none (some p)
  have a2 := asc_cut ha (some p) none
  have a3 := asc_cut ha (some (p + 1)) none
  have s1 : slD (.str t) none (some p) = some (.str (L2.cutS t none (some p))) := sl_str (by omega) _ _
  have s2 : slD (.str t) (some p) none = some (.str (L2.cutS t (some p) none)) := sl_str (by omega) _ _
  have s3 : slD (.str t) (some (p + 1)) none = some (.str (L2.cutS t (some (p + 1)) none)) := sl_str (by omega) _ _
  obtain ⟨A, eA⟩ : ∃ A, A = L2.cutS t none (some p) := ⟨_, rfl⟩
  obtain ⟨B, eB⟩ : ∃ B, B = L2.cutS t (some p) none := ⟨_, rfl⟩
  obtain ⟨C, eC'⟩ : ∃ C, C = L2.cutS t (some (p + 1)) none := ⟨_, rfl⟩
  rw [← eA] at l1 a1 s1
  rw [← eB] at l2 a2 s2
  rw [← eC'] at l3 a3 s3
  have g1 := sl_to ws r (by omega)
  have g2 := sl_mid ws r (r + 1) (by omega) (by omega)
  have g3 := sl_from ws r (by omega)
  have g4 := sl_from ws (r + 1) (by omega)
  rw [show ((r + 1 : Nat) : Int) = (r : Int) + 1 by omega] at g2 g4
  rw [show r + 1 - r = 1 by omega] at g2
  obtain ⟨T1, eT1⟩ : ∃ T1, T1 = ws.take r ++ (ws.drop r).take 1 ++ ws.drop r := ⟨_, rfl⟩
  obtain ⟨T2, eT2⟩ : ∃ T2, T2 = ws.take r ++ ws.drop (r + 1) := ⟨_, rfl⟩
  have t1 : tot T1 ≤ 2 * (t.length + 1) := by
    rw [eT1, tot_app, tot_app]
    have h1 := tot_cut ws r
    have h2 := tot_take (ws.drop r) 1
    have h3 := tot_drop ws r
    omega
  have t2 : tot T2 ≤ t.length + 1 := by
    rw [eT2, tot_app]
    have h1 := tot_cut ws r
    have h2 : tot (ws.drop (r + 1)) ≤ tot (ws.drop r) := by rw [← List.drop_drop]; exact tot_drop _ _
    omega
  have b1 : ∀ w ∈ T1, Asc w := fun w h => by
    rw [eT1] at h
    rcases List.mem_append.mp h with h | h
    · rcases List.mem_append.mp h with h | h
      · exact hwa w (List.mem_of_mem_take h)
      · exact hwa w (List.mem_of_mem_drop (List.mem_of_mem_take h))
    · exact hwa w (List.mem_of_mem_drop h)
  have b2 : ∀ w ∈ T2, Asc w := fun w h => by
    rw [eT2] at h
    rcases List.mem_append.mp h with h | h
    · exact hwa w (List.mem_of_mem_take h)
    · exact hwa w (List.mem_of_mem_drop h)
  have j1 := join_any (ws := T1) (by omega)
  have j2 := join_any (ws := T2) (by omega)
  have jl1 := join_le T1
  have jl2 := join_le T2
  obtain ⟨x, hx, hx5⟩ := menu5 (A ++ sg c ++ B) (A ++ C) (A ++ sg c ++ C) (Txt.join " " T1) (Txt.join " " T2) (i := q / 1048576 % 5) (by omega) (by omega)
  refine ⟨x, ?_, ?_⟩
  · rcases hx5 with rfl | rfl | rfl | rfl | rfl
    · exact ⟨asc_app (asc_app a1 hca) a2, by rw [app_len, app_len, hcl]; omega⟩
    · exact ⟨asc_app a1 a3, by rw [app_len]; omega⟩
    · exact ⟨asc_app (asc_app a1 hca) a3, by rw [app_len, app_len, hcl]; omega⟩
    · exact ⟨join_asc b1, by omega⟩
    · exact ⟨join_asc b2, by omega⟩
  · rw [F_law_bent_def]
    apply run_rt
    show B_law_bent [.va (.str t), .va (.int q), .no, .no, .no, .no, .no, .no, .no, .no] = _
    unfold B_law_bent
    refine s_set (d := .int p) (by rw [ep]; exact e2 (d := .int q) rfl (e2 (eC (ds := [.str t]) (eCons rfl rfl) (len_str (by omega))) rfl rfl) (mod_int (by omega))) ?_
    refine s_set (d := .str (sg c)) (e2 rfl (e2 (e2 (d := .int q) rfl rfl (fdiv_int (by decide))) rfl (mod_int (by decide))) hc) ?_
    refine s_set (d := .list (ws.map .str)) (e2 rfl rfl hs) ?_
    refine s_set (d := .int (r : Nat)) (by rw [← er]; exact e2 (e2 (d := .int q) rfl rfl (fdiv_int (by decide))) (eC (ds := [.list (ws.map .str)]) (eCons rfl rfl) (by show some (PyData.int ((ws.map PyData.str).length : Nat)) = _; rw [List.length_map])) (mod_int (by omega))) ?_
    refine s_nx (par_nx (d := .str A) (e := .str C) (eCons (eSl rfl rfl (ePt rfl) s1) (eCons (eSl rfl (ePt (e2 rfl rfl rfl)) rfl s3) rfl)) rfl) ?_
    refine s_own (ds := [.str (A ++ sg c ++ B), .str (A ++ C), .str (A ++ sg c ++ C)]) (eChk (eCons (e2 (e2 (d := .str A) rfl (e := .str (sg c)) rfl (add_str (by omega))) (eSl rfl (ePt rfl) rfl s2) (add_str (by rw [app_len]; omega))) (eCons (e2 (d := .str A) (e := .str C) rfl rfl (add_str (by omega))) (eCons (e2 (e2 (d := .str A) rfl (e := .str (sg c)) rfl (add_str (by omega))) (e := .str C) rfl (add_str (by rw [app_len]; omega))) rfl))) (Nat.le_of_ble_eq_true rfl)) ?_
    refine s_set (d := .list (T1.map .str)) ?_ ?_
    · rw [eT1]
      exact e2 (e2 (eSl rfl rfl (ePt rfl) g1) (eSl rfl (ePt rfl) (ePt (e2 rfl rfl rfl)) g2) (cat_strs _ _ (by simp only [List.length_take, List.length_drop]; omega))) (eSl rfl (ePt rfl) rfl g3) (cat_strs _ _ (by simp only [List.length_append, List.length_take, List.length_drop]; omega))
    refine s_app (ds := [.str (A ++ sg c ++ B), .str (A ++ C), .str (A ++ sg c ++ C)]) rfl (e2 rfl rfl j1) (by show (3 : Nat) < 16777216; decide) ?_
    refine s_app (ds := [.str (A ++ sg c ++ B), .str (A ++ C), .str (A ++ sg c ++ C), .str (Txt.join " " T1)]) rfl (e2 rfl (e := .list (T2.map .str)) ?_ j2) (by show (4 : Nat) < 16777216; decide) ?_
    · rw [eT2]
      exact e2 (eSl rfl rfl (ePt rfl) g1) (eSl rfl (ePt (e2 rfl rfl rfl)) rfl g4) (cat_strs _ _ (by simp only [List.length_take, List.length_drop]; omega))
    refine s_frz rfl ?_
    exact r_ret (e2 rfl (e2 (e2 (d := .int q) rfl rfl (fdiv_int (by decide))) rfl (mod_int (by decide))) hx) rfl
theorem wrS_tot {l : List Cd} (h0 : l ≠ []) : (wrS l).length + 1 = 3 * l.length := by
  unfold wrS
  rw [if_neg h0, join_tot (fun e => h0 (List.map_eq_nil_iff.mp e))]
  unfold tot
  rw [List.map_map]
  clear h0
  induction l with
  | nil => rfl
  | cons c l ih =>
    rw [List.map_cons, List.sum_cons, ih, List.length_cons]
    show 2 + 1 + _ = _
    omega
theorem ic_cd {c : Cd} (h : CdOk c) : icB (cdD c) = true := by
  obtain ⟨h1, h2, h3, h4⟩ := h
  show (wholeB (.int c.1) 1 13 && wholeB (.int c.2) 0 3) = true
  unfold wholeB
  simp only [Bool.and_eq_true, decide_eq_true_eq]
  omega
abbrev tryB : SF := (cSeq (cAsg (cCall F_law_bent (cArgs 2 (cCons (cV 2) (cCons (c2 fdivD (cCall F_law_drawn (cArgs 2 (cCons (cV 1) (cCons (cV 3) cNil)))) (cC (.int 4))) cNil)))) (gV 2))
  (cSeq (cAsg (cTold (cCall F_read (cArgs 1 (cCons (cV 2) cNil))) (rCall R_read (cArgs 1 (cCons (cV 2) cNil)))) (gV 4))
  (cSeq (cIfS (cT1 asB (c2 eqD (c2 ixD (cV 4) (cC (.int 0))) (cC (.str "refused")))) (cSeq (cIfS (cT1 asB (c2 neD (cV 4) (cTup (cCons (cC (.str "refused")) (cCons (cC (.int 0)) cNil))))) (cRet (cC (.bool false))) cNext)
  cCnt) cNext)
  (cSeq (cIfS (cOr (cNot (cT1 asB (c1 (isiD "tuple") (c2 ixD (cV 4) (cC (.int 1)))))) (cT1 asB (c2 neD (cCall F_written (cArgs 1 (cCons (c2 ixD (cV 4) (cC (.int 1))) cNil))) (cV 2)))) (cRet (cC (.bool false))) cNext)
  (cIfS (cT1 asB (c2 neD (cL (cLc (cItT (c2 ixD (cV 4) (cC (.int 1)))) [5] (gV 5) (cT1 asB (c2 isntD (cCall F_is_card (cArgs 1 (cCons (cV 5) cNil))) (cC (.bool true)))) (cV 5))) (cL (chk 1000 cNil)))) (cRet (cC (.bool false))) cNext)))))
theorem try_step {s0 x4 x5 : Sl} {n : Int} (n0 : 0 ≤ n) (n1 : n < 2147483629) {k : Int} (k0 : 0 ≤ k) (k1 : k < 900) {t : Str} {m : Nat} (h : Few t m) (hm : m ≤ 100) :
    ∃ t' y4 y5, Few t' (2 * m + 2) ∧ (tryB [s0, .va (.int n), .va (.str t), .va (.int k), x4, x5] = some (.nx [s0, .va (.int n), .va (.str t'), .va (.int k), y4, y5]) ∨ tryB [s0, .va (.int n), .va (.str t), .va (.int k), x4, x5] = some (.ct [s0, .va (.int n), .va (.str t'), .va (.int k), y4, y5])) := by
  obtain ⟨d, hd, d0, d1⟩ := drawn_ok n0 n1 (k := k) k0 (by omega)
  obtain ⟨t', ht', hb⟩ := bent_ok h (by omega) (q := d / 4) (by omega)
  have hS : ∀ (G' : SF) (o : Option Out), G' [s0, .va (.int n), .va (.str t'), .va (.int k), x4, x5] = o → cSeq (cAsg (cCall F_law_bent (cArgs 2 (cCons (cV 2) (cCons (c2 fdivD (cCall F_law_drawn (cArgs 2 (cCons (cV 1) (cCons (cV 3) cNil)))) (cC (.int 4))) cNil)))) (gV 2)) G' [s0, .va (.int n), .va (.str t), .va (.int k), x4, x5] = o := fun G' o hh =>
    s_set (eC (ds := [.str t, .int (d / 4)]) (eArgs (eCons rfl (eCons (e2 (eC (eArgs (eCons rfl (eCons rfl rfl)) rfl) hd) rfl (fdiv_int (by decide))) rfl)) rfl) hb) hh
  have hta := ht'.1
  have htl := ht'.2
  rcases read_gen hta (by omega) with ⟨l, hc, hll, htw, hr, hR⟩ | ⟨_, _, hR⟩
  · refine ⟨t', .va (.tuple [.str "told", cdT l]), x5, ht', .inl (hS _ _ ?_)⟩
    have hl : l.length ≤ 100 := by
      by_cases h0 : l = []
      · subst h0; simp
      · have := wrS_tot h0
        rw [htw] at this
        omega
    refine s_set (d := .tuple [.str "told", cdT l]) ?_ ?_
    · show (match R_read [.str t'] with | some b => some (PyData.tuple [.str "refused", .int (if b = true then 1 else 0)]) | none => (F_read [.str t']).bind fun d => some (.tuple [.str "told", d])) = _
      rw [hR, hr]; rfl
    refine s_ifF ((eT (e2 (d := .str "told") rfl rfl (eq_strs (by decide +kernel) (by decide +kernel))) rfl).trans (by decide +kernel)) (s_next ?_)
    have hwr := written_ok hc hl
    rw [htw] at hwr
    refine s_ifF (or_F (not_1 (b := true) (eT (e1 (d := cdT l) rfl (isi_tupB rfl)) rfl)) (eT (e2 (eC (ds := [cdT l]) (eArgs (eCons rfl rfl) rfl) hwr) rfl (ne_self (shaped_str (asc_ok hta)))) rfl)) (s_next ?_)
    have hlc : cL (cLc (cItT (c2 ixD (cV 4) (cC (.int 1)))) [5] (gV 5) (cT1 asB (c2 isntD (cCall F_is_card (cArgs 1 (cCons (cV 5) cNil))) (cC (.bool true)))) (cV 5)) [s0, .va (.int n), .va (.str t'), .va (.int k), .va (.tuple [.str "told", cdT l]), x5] = some (.list ((l.filter fun _ => false).map cdD)) :=
      eLcM (l := l) (enc := cdD) (out := cdD) (p := fun _ => false) (eItT rfl) (by omega) fun c hx => ⟨[s0, .va (.int n), .va (.str t'), .va (.int k), .va (.tuple [.str "told", cdT l]), .va (cdD c)], rfl, (eT (e2 (eC (ds := [cdD c]) (eArgs (eCons rfl rfl) rfl) (is_card_ok rfl)) rfl rfl) rfl).trans (by rw [ic_cd (hc c hx)]; rfl), fun z => nomatch z⟩
    rw [List.filter_eq_nil_iff.mpr (fun _ _ => by simp)] at hlc
    exact i_F (eT (e2 hlc (eL (eChk rfl (by simp))) (ne_self rfl)) rfl) rfl
  · refine ⟨t', .va (.tuple [.str "refused", .int 0]), x5, ht', .inr (hS _ _ ?_)⟩
    refine s_set (d := .tuple [.str "refused", .int 0]) ?_ ?_
    · show (match R_read [.str t'] with | some b => some (PyData.tuple [.str "refused", .int (if b = true then 1 else 0)]) | none => (F_read [.str t']).bind fun d => some (.tuple [.str "told", d])) = _
      rw [hR]; rfl
    have hq : cT1 asB (c2 eqD (c2 ixD (cV 4) (cC (.int 0))) (cC (.str "refused"))) [s0, .va (.int n), .va (.str t'), .va (.int k), .va (.tuple [.str "refused", .int 0]), x5] = some true := (eT (e2 (d := .str "refused") rfl rfl (eq_strs (by decide +kernel) (by decide +kernel))) rfl).trans (by decide +kernel)
    refine (seq_ct (ρ1 := [s0, .va (.int n), .va (.str t'), .va (.int k), .va (.tuple [.str "refused", .int 0]), x5]) (i_T hq ?_))
    exact s_ifF (eT (e2 rfl (eTup (eCons rfl (eCons rfl rfl)) (by simp)) (ne_self shaped_ref0)) rfl) (s_next rfl)
theorem try_loop {s0 : Sl} {n : Int} (n0 : 0 ≤ n) (n1 : n < 2147483629) : ∀ (f k : Nat) (t : Str) (m : Nat) (x3 x4 x5 : Sl), k + f < 900 → Few t m → (m + 2) * 2 ^ f ≤ 200 →
    ∃ ρ, forL (gV 3) tryB ((rgI (k : Nat) f).map PyData.int) [s0, .va (.int n), .va (.str t), x3, x4, x5] = some (.nx ρ)
  | 0, k, t, m, x3, x4, x5, _, h, hm => ⟨_, rfl⟩
  | f + 1, k, t, m, x3, x4, x5, hk, h, hm => by
    have hp : 1 ≤ 2 ^ f := Nat.one_le_two_pow
    have hm2 : (m + 2) * (2 ^ f * 2) ≤ 200 := by rw [Nat.pow_succ] at hm; exact hm
    have hm3 : (2 * m + 2 + 2) * 2 ^ f ≤ 200 := by
      have : (2 * m + 2 + 2) * 2 ^ f = (m + 2) * (2 ^ f * 2) := by rw [show 2 * m + 2 + 2 = 2 * (m + 2) by omega, Nat.mul_comm (2 ^ f) 2, ← Nat.mul_assoc, Nat.mul_comm 2 (m + 2)]
      omega
    have hm4 : m ≤ 100 := by
      have : (m + 2) * 2 ≤ (m + 2) * (2 ^ f * 2) := Nat.mul_le_mul_left _ (by omega)
      omega
    obtain ⟨t', y4, y5, h', e⟩ := try_step (s0 := s0) (x4 := x4) (x5 := x5) n0 n1 (k := (k : Nat)) (by omega) (by omega) h hm4
    obtain ⟨ρ, ih⟩ := try_loop (s0 := s0) n0 n1 f (k + 1) t' (2 * m + 2) (.va (.int (k : Nat))) y4 y5 (by omega) h' hm3
    refine ⟨ρ, ?_⟩
    rw [rgI_consN, List.map_cons]
    rcases e with e | e
    · exact (forL_cons rfl e).trans ih
    · exact (forL_ct rfl e).trans ih
theorem law_all {d : D} {ns : List Int} (hs : Scr d ns) : F_law [d] = some (.bool true) := by
  obtain ⟨n, hn, n0, n1⟩ := mixed_ok hs (k := 0) (by decide) (by decide)
  obtain ⟨m, hm, m0, m1⟩ := mixed_ok hs (k := 1) (by decide) (by decide)
  obtain ⟨many, em⟩ : ∃ many : Nat, n / 16 % 8 = (many : Int) := ⟨(n / 16 % 8).toNat, by omega⟩
  obtain ⟨cs, hdl, hd, hc, hcl⟩ := deal_ok m0 m1 (many := many) (by omega)
  have hwr := written_ok hc (by omega)
  have hwl := wrS_len (l := cs)
  rw [F_law_def]
  apply run_rt
  show B_law [.va d, .no, .no, .no, .no, .no] = _
  unfold B_law
  refine s_set (eC (eArgs (eCons rfl (eCons rfl rfl)) rfl) hn) ?_
  refine s_set (d := .str (wrS cs)) (eC (ds := [cdT cs]) (eArgs (eCons (eC (ds := [.int m, .int many]) (eArgs (eCons (eC (eArgs (eCons rfl (eCons rfl rfl)) rfl) hm) (eCons (by rw [← em]; exact e2 (e2 (d := .int n) rfl rfl (fdiv_int (by decide))) rfl (mod_int (by decide))) rfl)) rfl) hdl) rfl) rfl) hwr) ?_
  obtain ⟨f, ef⟩ : ∃ f : Nat, 1 + n / 4 % 3 = (f : Int) := ⟨(1 + n / 4 % 3).toNat, by omega⟩
  have hf3 : f ≤ 3 := by omega
  have h2f : 2 ^ f ≤ 8 := by
    have : f = 0 ∨ f = 1 ∨ f = 2 ∨ f = 3 := by omega
    rcases this with rfl | rfl | rfl | rfl <;> decide
  obtain ⟨ρ, hf⟩ := try_loop (s0 := .va d) n0 n1 f 0 (wrS cs) 22 .no .no .no (by omega) ⟨wrS_asc hc, by omega⟩ (by
    have : (22 + 2) * 2 ^ f ≤ (22 + 2) * 8 := Nat.mul_le_mul_left _ h2f
    omega)
  refine s_for (ds := (rgI 0 f).map PyData.int) ((eRg1 (n := (f : Nat)) (by rw [← ef]; exact e2 (d := .int 1) rfl (e2 (e2 (d := .int n) rfl rfl (fdiv_int (by decide))) rfl (mod_int (by decide))) rfl) (by omega)).trans (by rw [rgL_eq, Int.toNat_natCast])) hf ?_
  exact r_ret rfl rfl
theorem law_true (ns : List Int) (h : ns.length ≤ 63) : F_law [scrD ns] = some (.bool true) := law_all (.inl rfl)
theorem law_true2 (ns : List Int) (h : ns.length ≤ 63) : F_law [.list (ns.map PyData.int)] = some (.bool true) := law_all (.inr rfl)

end LW
namespace LW
open PySem PySem.Spec PyProof.Rows L2 G
theorem all_mk {l : PySem.W.OpenLaw} {w : World} {K : PySem.W.Frag} {h : Heap} {mg : Str → Option Value} {fa c TP : Addr} (X : K.In h) (G : h.Ns mainGlobals mg) (hfa : mg "law" = some (.ref fa)) (own : LamX.OwnTab K fa h)
    {f0 : Addr} {od0 an0 : Option Addr} {sl0 : Array (Option Value)} {oc0 kV0 dc0 pm0 cd0 ct0 : Value} (a0 : PySem.W.nsIn K mainGlobals "is_whole" = some (some (.ref f0))) (l0 : K.lookup f0 = some ⟨oc0, od0, .func (PySem.W.fnOf "is_whole" "is_whole" (defArgs s_is_whole) (defBody s_is_whole) (defScope s_is_whole) .none kV0 dc0 pm0 an0 cd0 ct0), sl0⟩) (c0 : PySem.W.codeIn K cd0 "is_whole" = true) (k0 : PySem.W.keepIn K (.ref f0) = true)
    {f1 : Addr} {od1 an1 : Option Addr} {sl1 : Array (Option Value)} {oc1 kV1 dc1 pm1 cd1 ct1 : Value} (a1 : PySem.W.nsIn K mainGlobals "is_card" = some (some (.ref f1))) (l1 : K.lookup f1 = some ⟨oc1, od1, .func (PySem.W.fnOf "is_card" "is_card" (defArgs s_is_card) (defBody s_is_card) (defScope s_is_card) .none kV1 dc1 pm1 an1 cd1 ct1), sl1⟩) (c1 : PySem.W.codeIn K cd1 "is_card" = true) (k1 : PySem.W.keepIn K (.ref f1) = true)
    {f2 : Addr} {od2 an2 : Option Addr} {sl2 : Array (Option Value)} {oc2 kV2 dc2 pm2 cd2 ct2 : Value} (a2 : PySem.W.nsIn K mainGlobals "card_text" = some (some (.ref f2))) (l2 : K.lookup f2 = some ⟨oc2, od2, .func (PySem.W.fnOf "card_text" "card_text" (defArgs s_card_text) (defBody s_card_text) (defScope s_card_text) .none kV2 dc2 pm2 an2 cd2 ct2), sl2⟩) (c2 : PySem.W.codeIn K cd2 "card_text" = true) (k2 : PySem.W.keepIn K (.ref f2) = true)
    {f3 : Addr} {od3 an3 : Option Addr} {sl3 : Array (Option Value)} {oc3 kV3 dc3 pm3 cd3 ct3 : Value} (a3 : PySem.W.nsIn K mainGlobals "written" = some (some (.ref f3))) (l3 : K.lookup f3 = some ⟨oc3, od3, .func (PySem.W.fnOf "written" "written" (defArgs s_written) (defBody s_written) (defScope s_written) .none kV3 dc3 pm3 an3 cd3 ct3), sl3⟩) (c3 : PySem.W.codeIn K cd3 "written" = true) (k3 : PySem.W.keepIn K (.ref f3) = true)
    {f4 : Addr} {od4 an4 : Option Addr} {sl4 : Array (Option Value)} {oc4 kV4 dc4 pm4 cd4 ct4 : Value} (a4 : PySem.W.nsIn K mainGlobals "card_of" = some (some (.ref f4))) (l4 : K.lookup f4 = some ⟨oc4, od4, .func (PySem.W.fnOf "card_of" "card_of" (defArgs s_card_of) (defBody s_card_of) (defScope s_card_of) .none kV4 dc4 pm4 an4 cd4 ct4), sl4⟩) (c4 : PySem.W.codeIn K cd4 "card_of" = true) (k4 : PySem.W.keepIn K (.ref f4) = true)
    {f5 : Addr} {od5 an5 : Option Addr} {sl5 : Array (Option Value)} {oc5 kV5 dc5 pm5 cd5 ct5 : Value} (a5 : PySem.W.nsIn K mainGlobals "read" = some (some (.ref f5))) (l5 : K.lookup f5 = some ⟨oc5, od5, .func (PySem.W.fnOf "read" "read" (defArgs s_read) (defBody s_read) (defScope s_read) .none kV5 dc5 pm5 an5 cd5 ct5), sl5⟩) (c5 : PySem.W.codeIn K cd5 "read" = true) (k5 : PySem.W.keepIn K (.ref f5) = true)
    {f6 : Addr} {od6 an6 : Option Addr} {sl6 : Array (Option Value)} {oc6 kV6 dc6 pm6 cd6 ct6 : Value} (a6 : PySem.W.nsIn K mainGlobals "_law_cell_at" = some (some (.ref f6))) (l6 : K.lookup f6 = some ⟨oc6, od6, .func (PySem.W.fnOf "_law_cell_at" "_law_cell_at" (defArgs s_law_cell_at) (defBody s_law_cell_at) (defScope s_law_cell_at) .none kV6 dc6 pm6 an6 cd6 ct6), sl6⟩) (c6 : PySem.W.codeIn K cd6 "_law_cell_at" = true) (k6 : PySem.W.keepIn K (.ref f6) = true)
    {f7 : Addr} {od7 an7 : Option Addr} {sl7 : Array (Option Value)} {oc7 kV7 dc7 pm7 cd7 ct7 : Value} (a7 : PySem.W.nsIn K mainGlobals "_law_mixed" = some (some (.ref f7))) (l7 : K.lookup f7 = some ⟨oc7, od7, .func (PySem.W.fnOf "_law_mixed" "_law_mixed" (defArgs s_law_mixed) (defBody s_law_mixed) (defScope s_law_mixed) .none kV7 dc7 pm7 an7 cd7 ct7), sl7⟩) (c7 : PySem.W.codeIn K cd7 "_law_mixed" = true) (k7 : PySem.W.keepIn K (.ref f7) = true)
    {f8 : Addr} {od8 an8 : Option Addr} {sl8 : Array (Option Value)} {oc8 kV8 dc8 pm8 cd8 ct8 : Value} (a8 : PySem.W.nsIn K mainGlobals "_law_drawn" = some (some (.ref f8))) (l8 : K.lookup f8 = some ⟨oc8, od8, .func (PySem.W.fnOf "_law_drawn" "_law_drawn" (defArgs s_law_drawn) (defBody s_law_drawn) (defScope s_law_drawn) .none kV8 dc8 pm8 an8 cd8 ct8), sl8⟩) (c8 : PySem.W.codeIn K cd8 "_law_drawn" = true) (k8 : PySem.W.keepIn K (.ref f8) = true)
    {f9 : Addr} {od9 an9 : Option Addr} {sl9 : Array (Option Value)} {oc9 kV9 dc9 pm9 cd9 ct9 : Value} (a9 : PySem.W.nsIn K mainGlobals "_law_deal" = some (some (.ref f9))) (l9 : K.lookup f9 = some ⟨oc9, od9, .func (PySem.W.fnOf "_law_deal" "_law_deal" (defArgs s_law_deal) (defBody s_law_deal) (defScope s_law_deal) .none kV9 dc9 pm9 an9 cd9 ct9), sl9⟩) (c9 : PySem.W.codeIn K cd9 "_law_deal" = true) (k9 : PySem.W.keepIn K (.ref f9) = true)
    {f10 : Addr} {od10 an10 : Option Addr} {sl10 : Array (Option Value)} {oc10 kV10 dc10 pm10 cd10 ct10 : Value} (a10 : PySem.W.nsIn K mainGlobals "_law_bent" = some (some (.ref f10))) (l10 : K.lookup f10 = some ⟨oc10, od10, .func (PySem.W.fnOf "_law_bent" "_law_bent" (defArgs s_law_bent) (defBody s_law_bent) (defScope s_law_bent) .none kV10 dc10 pm10 an10 cd10 ct10), sl10⟩) (c10 : PySem.W.codeIn K cd10 "_law_bent" = true) (k10 : PySem.W.keepIn K (.ref f10) = true)
    {f11 : Addr} {od11 an11 : Option Addr} {sl11 : Array (Option Value)} {oc11 kV11 dc11 pm11 cd11 ct11 : Value} (a11 : PySem.W.nsIn K mainGlobals "_law_told" = some (some (.ref f11))) (l11 : K.lookup f11 = some ⟨oc11, od11, .func (PySem.W.fnOf "_law_told" "_law_told" (defArgs s_law_told) (defBody s_law_told) (defScope s_law_told) .none kV11 dc11 pm11 an11 cd11 ct11), sl11⟩) (c11 : PySem.W.codeIn K cd11 "_law_told" = true) (k11 : PySem.W.keepIn K (.ref f11) = true)
    {f12 : Addr} {od12 an12 : Option Addr} {sl12 : Array (Option Value)} {oc12 kV12 dc12 pm12 ct12 : Value} (a12 : PySem.W.nsIn K mainGlobals "law" = some (some (.ref f12))) (l12 : K.lookup f12 = some ⟨oc12, od12, .func (PySem.W.fnOf "law" "law" (defArgs s_law) (defBody s_law) (defScope s_law) .none kV12 dc12 pm12 an12 (.ref c) ct12), sl12⟩) (c12 : PySem.W.codeIn K (.ref c) "law" = true) (k12 : PySem.W.keepIn K (.ref f12) = true)
    {t_SUITS : Tok} (i_SUITS : PySem.W.nsIn K mainGlobals "SUITS" = some (some (.str "cdhs" t_SUITS)))
    {t_RANKS : Tok} (i_RANKS : PySem.W.nsIn K mainGlobals "RANKS" = some (some (.str "a23456789tjqk" t_RANKS)))
    (z_len : PySem.W.nsIn K mainGlobals "len" = some none)
    (z_tuple : PySem.W.nsIn K mainGlobals "tuple" = some none)
    (z_list : PySem.W.nsIn K mainGlobals "list" = some none)
    (z_sum : PySem.W.nsIn K mainGlobals "sum" = some none)
    (z_max : PySem.W.nsIn K mainGlobals "max" = some none)
    (z_min : PySem.W.nsIn K mainGlobals "min" = some none)
    (z_all : PySem.W.nsIn K mainGlobals "all" = some none)
    (z_any : PySem.W.nsIn K mainGlobals "any" = some none)
    (z_abs : PySem.W.nsIn K mainGlobals "abs" = some none)
    (z_int : PySem.W.nsIn K mainGlobals "int" = some none)
    (z_bool : PySem.W.nsIn K mainGlobals "bool" = some none)
    (z_str : PySem.W.nsIn K mainGlobals "str" = some none)
    (z_set : PySem.W.nsIn K mainGlobals "set" = some none)
    (z_sorted : PySem.W.nsIn K mainGlobals "sorted" = some none)
    (z_range : PySem.W.nsIn K mainGlobals "range" = some none)
    (z_enumerate : PySem.W.nsIn K mainGlobals "enumerate" = some none)
    (z_zip : PySem.W.nsIn K mainGlobals "zip" = some none)
    (z_isinstance : PySem.W.nsIn K mainGlobals "isinstance" = some none)
    (z_repr : PySem.W.nsIn K mainGlobals "repr" = some none)
    (z_ValueError : PySem.W.nsIn K mainGlobals "ValueError" = some none)
    {CP CT CC : Addr} (iP : PySem.W.nsIn K mainGlobals "PegError" = some (some (.ref CP))) (iT : PySem.W.nsIn K mainGlobals "NoText" = some (some (.ref CT))) (iC : PySem.W.nsIn K mainGlobals "NoCard" = some (some (.ref CC)))
    (qe1 : PySem.W.exmOne K (.ref CT) (.ref CP) = some true)
    (qe2 : PySem.W.exmOne K (.ref CC) (.ref CP) = some true)
    (qt1 : PySem.W.kitOne K (.ref CT) (.ref CT) = some true)
    (qt2 : PySem.W.kitOne K (.ref CC) (.ref CT) = some false)
    (qt3 : PySem.W.kitOne K (.ref CT) (.ref CC) = some false)
    (qt4 : PySem.W.kitOne K (.ref CC) (.ref CC) = some true)
    (qv1 : PySem.W.kitOne K (.ref CT) (.type "ValueError") = some true)
    (qv2 : PySem.W.kitOne K (.ref CC) (.type "ValueError") = some true)
    (hgCT : PySem.W.findIn K (.ref CT) "__getattribute__" = some (some (.builtin "BaseException.__getattribute__")))
    (hkCT : PySem.W.findIn K (.ref CT) "__getattr__" = some none)
    (hsCT : PySem.W.subIn K (.ref CT) (.type "BaseException") = some true)
    (hdCT : PySem.W.hasDictIn K CT = true)
    (haCT : PySem.W.findIn K (.ref CT) "__class__" = some (some (.builtin "object.__class__")))
    (hnCT : PySem.W.specialIn K (.builtin "object.__class__") "__get__" = some (some (.builtin "getset_descriptor.__get__")))
    (htCT : PySem.W.takesIn K (.builtin "object.__class__") = some true)
    (hmCT : PySem.W.mroIn K CT (.type "object") = some true)
    (xkCT : PySem.W.keepIn K (.ref CT) = true)
    (xtCT : PySem.W.typeIn K (.ref CT) = some (.type "type"))
    (xiCT : PySem.W.excIn K CT [.type "ValueError", .type "Exception", .type "BaseException", .type "object"] "ValueError.__new__" = true)
    (hgCC : PySem.W.findIn K (.ref CC) "__getattribute__" = some (some (.builtin "BaseException.__getattribute__")))
    (hkCC : PySem.W.findIn K (.ref CC) "__getattr__" = some none)
    (hsCC : PySem.W.subIn K (.ref CC) (.type "BaseException") = some true)
    (hdCC : PySem.W.hasDictIn K CC = true)
    (haCC : PySem.W.findIn K (.ref CC) "__class__" = some (some (.builtin "object.__class__")))
    (hnCC : PySem.W.specialIn K (.builtin "object.__class__") "__get__" = some (some (.builtin "getset_descriptor.__get__")))
    (htCC : PySem.W.takesIn K (.builtin "object.__class__") = some true)
    (hmCC : PySem.W.mroIn K CC (.type "object") = some true)
    (xkCC : PySem.W.keepIn K (.ref CC) = true)
    (xtCC : PySem.W.typeIn K (.ref CC) = some (.type "type"))
    (xiCC : PySem.W.excIn K CC [.type "ValueError", .type "Exception", .type "BaseException", .type "object"] "ValueError.__new__" = true)
    {ee : Value} {ed : Option Addr} {vs : Array Value} {es : Array (Option Value)} (lc : K.lookup c = some ⟨ee, ed, .fields vs, es⟩) (lv11 : vs[11]? = some (.ref TP)) (nTP : K.lookup TP = none) (hcd : PySem.W.codeHdIn K c TP = true) :
    LamX.LawAtS l w K CX0 5 63 "_law_script" mg fa h := by
  have e := hfa.symm.trans (PySem.W.mg_of X G a12)
  cases e
  have hB : Bt mg := ⟨PySem.W.mg_none_of X G z_len, PySem.W.mg_none_of X G z_tuple, PySem.W.mg_none_of X G z_list, PySem.W.mg_none_of X G z_sum, PySem.W.mg_none_of X G z_max, PySem.W.mg_none_of X G z_min, PySem.W.mg_none_of X G z_all, PySem.W.mg_none_of X G z_any, PySem.W.mg_none_of X G z_abs, PySem.W.mg_none_of X G z_int, PySem.W.mg_none_of X G z_bool, PySem.W.mg_none_of X G z_str, PySem.W.mg_none_of X G z_set, PySem.W.mg_none_of X G z_sorted, PySem.W.mg_none_of X G z_range, PySem.W.mg_none_of X G z_enumerate, PySem.W.mg_none_of X G z_zip, PySem.W.mg_none_of X G z_isinstance, PySem.W.mg_none_of X G z_repr, PySem.W.mg_none_of X G z_ValueError⟩
  have tf : TF K mg (eclO CT CC) := tf_of X G iP iT iC z_ValueError z_isinstance qe1 qe2 qt1 qt2 qt3 qt4 qv1 qv2 ⟨hgCT, hkCT, hsCT, hdCT, haCT, hnCT, htCT, hmCT⟩ ⟨hgCC, hkCC, hsCC, hdCC, haCC, hnCC, htCC, hmCC⟩
  have X_NoText : ExC K mg "NoText" CT := ⟨PySem.W.mg_of X G iT, xiCT, xkCT, hsCT, xtCT⟩
  have X_NoCard : ExC K mg "NoCard" CC := ⟨PySem.W.mg_of X G iC, xiCC, xkCC, hsCC, xtCC⟩
  have g_SUITS : ∃ t, mg "SUITS" = some (.str "cdhs" t) := ⟨_, PySem.W.mg_of X G i_SUITS⟩
  have g_RANKS : ∃ t, mg "RANKS" = some (.str "a23456789tjqk" t) := ⟨_, PySem.W.mg_of X G i_RANKS⟩
  have Fn0 := fun_mk (st := s_is_whole) l0 c0 k0
  have Fn1 := fun_mk (st := s_is_card) l1 c1 k1
  have Fn2 := fun_mk (st := s_card_text) l2 c2 k2
  have Fn3 := fun_mk (st := s_written) l3 c3 k3
  have Fn4 := fun_mk (st := s_card_of) l4 c4 k4
  have Fn5 := fun_mk (st := s_read) l5 c5 k5
  have Fn6 := fun_mk (st := s_law_cell_at) l6 c6 k6
  have Fn7 := fun_mk (st := s_law_mixed) l7 c7 k7
  have Fn8 := fun_mk (st := s_law_drawn) l8 c8 k8
  have Fn9 := fun_mk (st := s_law_deal) l9 c9 k9
  have Fn10 := fun_mk (st := s_law_bent) l10 c10 k10
  have Fn11 := fun_mk (st := s_law_told) l11 c11 k11
  refine lawAt_of (q := qL) (F := F_law) X own l12 rfl lc lv11 nTP hcd (fun s v => .of_eq rfl) (fun ns hl => law_true ns hl) (fun ns hl => law_true2 ns hl) fun base hK hN tb => ?_
  have C_is_whole : Cal l.prog w K mg base (tbM TP qL) "is_whole" 1 3 F_is_whole := cal_of Fn0 (PySem.W.mg_of X G a0) (Fn0.binds (ps := ["thing", "low", "high"]) fun _ _ _ _ _ _ us hl => match us, hl with | [_, _, _], _ => rfl) (ok_is_whole (tbM_ok _ _) (tbM_w _ _) hB Fn0)
  have C_is_card : Cal l.prog w K mg base (tbM TP qL) "is_card" 2 1 F_is_card := cal_of Fn1 (PySem.W.mg_of X G a1) (Fn1.binds (ps := ["thing"]) fun _ _ _ _ _ _ us hl => match us, hl with | [_], _ => rfl) (ok_is_card (tbM_ok _ _) (tbM_w _ _) hB g_SUITS g_RANKS C_is_whole Fn1)
  have C_card_text : Cal l.prog w K mg base (tbM TP qL) "card_text" 1 1 F_card_text := cal_of Fn2 (PySem.W.mg_of X G a2) (Fn2.binds (ps := ["card"]) fun _ _ _ _ _ _ us hl => match us, hl with | [_], _ => rfl) (ok_card_text (tbM_ok _ _) (tbM_w _ _) hB g_RANKS g_SUITS Fn2)
  have C_written : Cal l.prog w K mg base (tbM TP qL) "written" 2 1 F_written := cal_of Fn3 (PySem.W.mg_of X G a3) (Fn3.binds (ps := ["cards"]) fun _ _ _ _ _ _ us hl => match us, hl with | [_], _ => rfl) (ok_written (tbM_ok _ _) (tbM_w _ _) hB C_card_text Fn3)
  have C_card_of : Cal l.prog w K mg base (tbM TP qL) "card_of" 1 1 F_card_of := cal_of Fn4 (PySem.W.mg_of X G a4) (Fn4.binds (ps := ["word"]) fun _ _ _ _ _ _ us hl => match us, hl with | [_], _ => rfl) (ok_card_of (tbM_ok _ _) (tbM_w _ _) hB g_SUITS g_RANKS Fn4)
  have CR_card_of : CalR l.prog w K mg base (tbM TP qL) (eclO CT CC) "card_of" 1 1 R_card_of := calR_of Fn4 (PySem.W.mg_of X G a4) (Fn4.binds (ps := ["word"]) fun _ _ _ _ _ _ us hl => match us, hl with | [_], _ => rfl) (okR_card_of (tbM_ok _ _) (tbM_w _ _) hB X_NoText g_SUITS g_RANKS Fn4)
  have C_read : Cal l.prog w K mg base (tbM TP qL) "read" 2 1 F_read := cal_of Fn5 (PySem.W.mg_of X G a5) (Fn5.binds (ps := ["text"]) fun _ _ _ _ _ _ us hl => match us, hl with | [_], _ => rfl) (ok_read (tbM_ok _ _) (tbM_w _ _) hB C_card_of Fn5)
  have CR_read : CalR l.prog w K mg base (tbM TP qL) (eclO CT CC) "read" 2 1 R_read := calR_of Fn5 (PySem.W.mg_of X G a5) (Fn5.binds (ps := ["text"]) fun _ _ _ _ _ _ us hl => match us, hl with | [_], _ => rfl) (okR_read (tbM_ok _ _) (tbM_w _ _) hB X_NoText CR_card_of C_card_of Fn5)
  have C_law_cell_at : Cal l.prog w K mg base (tbM TP qL) "_law_cell_at" 1 2 F_law_cell_at := cal_of Fn6 (PySem.W.mg_of X G a6) (Fn6.binds (ps := ["_law_script", "_law_k"]) fun _ _ _ _ _ _ us hl => match us, hl with | [_, _], _ => rfl) (ok_law_cell_at (tbM_ok _ _) (tbM_w _ _) hB Fn6)
  have C_law_mixed : Cal l.prog w K mg base (tbM TP qL) "_law_mixed" 2 2 F_law_mixed := cal_of Fn7 (PySem.W.mg_of X G a7) (Fn7.binds (ps := ["_law_script", "_law_k"]) fun _ _ _ _ _ _ us hl => match us, hl with | [_, _], _ => rfl) (ok_law_mixed (tbM_ok _ _) (tbM_w _ _) hB C_law_cell_at Fn7)
  have C_law_drawn : Cal l.prog w K mg base (tbM TP qL) "_law_drawn" 1 2 F_law_drawn := cal_of Fn8 (PySem.W.mg_of X G a8) (Fn8.binds (ps := ["_law_number", "_law_k"]) fun _ _ _ _ _ _ us hl => match us, hl with | [_, _], _ => rfl) (ok_law_drawn (tbM_ok _ _) (tbM_w _ _) hB Fn8)
  have C_law_deal : Cal l.prog w K mg base (tbM TP qL) "_law_deal" 2 2 F_law_deal := cal_of Fn9 (PySem.W.mg_of X G a9) (Fn9.binds (ps := ["_law_number", "_law_many"]) fun _ _ _ _ _ _ us hl => match us, hl with | [_, _], _ => rfl) (ok_law_deal (tbM_ok _ _) (tbM_w _ _) hB C_law_drawn Fn9)
  have C_law_bent : Cal l.prog w K mg base (tbM TP qL) "_law_bent" 1 2 F_law_bent := cal_of Fn10 (PySem.W.mg_of X G a10) (Fn10.binds (ps := ["_law_text", "_law_number"]) fun _ _ _ _ _ _ us hl => match us, hl with | [_, _], _ => rfl) (ok_law_bent (tbM_ok _ _) (tbM_w _ _) hB Fn10)
  exact ok_law tf tb (PySem.W.mg_of X G a11) k11 l11 c11 (Fn11.binds (ps := ["_law_deed"]) fun _ _ _ _ _ _ us hl => match us, hl with | [_], _ => rfl) hB CR_read C_law_mixed C_written C_law_deal C_law_bent C_law_drawn C_read C_is_card l12 c12
end LW
open PySem PySem.W PyProof.Rows
set_option maxRecDepth 100000 in
set_option maxHeartbeats 0 in
theorem PySem.Challenge.cw_pegrows_k04_whole_nothing_else_read_holds : PySem.Challenge.rw_pegrows_k04_whole_nothing_else_read.Holds := by
  w_on; o_law; k_head; (case hw => w_witness2)
  k_fill
  refine LamX.walk_ofOwn (l := PySem.Challenge.rw_pegrows_k04_whole_nothing_else_read) (n := 63) (k := 5) (x := "_law_script") (CX := fun _ => L2.CX0) rfl (by decide) rfl ⟨rfl, by decide, by decide⟩ (by first | rfl | decide +kernel) (fun w h Y => (by first | exact PySem.W.kIn_of Y | exact PySem.W.km_in_of Y)) ?F (fun _ _ _ _ _ h => h)
  case F =>
    intro w mg fa h Y KX G hmg own
    refine' LW.all_mk KX G hmg own ?a0 ?l0 ?c0 ?k0 ?a1 ?l1 ?c1 ?k1 ?a2 ?l2 ?c2 ?k2 ?a3 ?l3 ?c3 ?k3 ?a4 ?l4 ?c4 ?k4 ?a5 ?l5 ?c5 ?k5 ?a6 ?l6 ?c6 ?k6 ?a7 ?l7 ?c7 ?k7 ?a8 ?l8 ?c8 ?k8 ?a9 ?l9 ?c9 ?k9 ?a10 ?l10 ?c10 ?k10 ?a11 ?l11 ?c11 ?k11 ?a12 ?l12 ?c12 ?k12 ?i_SUITS ?i_RANKS ?z_len ?z_tuple ?z_list ?z_sum ?z_max ?z_min ?z_all ?z_any ?z_abs ?z_int ?z_bool ?z_str ?z_set ?z_sorted ?z_range ?z_enumerate ?z_zip ?z_isinstance ?z_repr ?z_ValueError ?iP ?iT ?iC ?qe1 ?qe2 ?qt1 ?qt2 ?qt3 ?qt4 ?qv1 ?qv2 ?hgCT ?hkCT ?hsCT ?hdCT ?haCT ?hnCT ?htCT ?hmCT ?xkCT ?xtCT ?xiCT ?hgCC ?hkCC ?hsCC ?hdCC ?haCC ?hnCC ?htCC ?hmCC ?xkCC ?xtCC ?xiCC ?lc ?lv11 ?nTP ?hcd
    (case a0 => k_is); (case l0 => k_is); (case c0 => k_is); (case k0 => k_is); (case a1 => k_is); (case l1 => k_is); (case c1 => k_is); (case k1 => k_is); (case a2 => k_is); (case l2 => k_is); (case c2 => k_is); (case k2 => k_is); (case a3 => k_is); (case l3 => k_is); (case c3 => k_is); (case k3 => k_is); (case a4 => k_is); (case l4 => k_is); (case c4 => k_is); (case k4 => k_is); (case a5 => k_is); (case l5 => k_is); (case c5 => k_is); (case k5 => k_is); (case a6 => k_is); (case l6 => k_is); (case c6 => k_is); (case k6 => k_is); (case a7 => k_is); (case l7 => k_is); (case c7 => k_is); (case k7 => k_is); (case a8 => k_is); (case l8 => k_is); (case c8 => k_is); (case k8 => k_is); (case a9 => k_is); (case l9 => k_is); (case c9 => k_is); (case k9 => k_is); (case a10 => k_is); (case l10 => k_is); (case c10 => k_is); (case k10 => k_is); (case a11 => k_is); (case l11 => k_is); (case c11 => k_is); (case k11 => k_is); (case a12 => k_is); (case l12 => k_is); (case c12 => k_is); (case k12 => k_is); (case i_SUITS => k_is); (case i_RANKS => k_is); (case z_len => k_is); (case z_tuple => k_is); (case z_list => k_is); (case z_sum => k_is); (case z_max => k_is); (case z_min => k_is); (case z_all => k_is); (case z_any => k_is); (case z_abs => k_is); (case z_int => k_is); (case z_bool => k_is); (case z_str => k_is); (case z_set => k_is); (case z_sorted => k_is); (case z_range => k_is); (case z_enumerate => k_is); (case z_zip => k_is); (case z_isinstance => k_is); (case z_repr => k_is); (case z_ValueError => k_is); (case iP => k_is); (case iT => k_is); (case iC => k_is); (case qe1 => (first | kernel_rfl | rfl | decide +kernel)); (case qe2 => (first | kernel_rfl | rfl | decide +kernel)); (case qt1 => (first | kernel_rfl | rfl | decide +kernel)); (case qt2 => (first | kernel_rfl | rfl | decide +kernel)); (case qt3 => (first | kernel_rfl | rfl | decide +kernel)); (case qt4 => (first | kernel_rfl | rfl | decide +kernel)); (case qv1 => (first | kernel_rfl | rfl | decide +kernel)); (case qv2 => (first | kernel_rfl | rfl | decide +kernel)); (case hgCT => k_is); (case hkCT => k_is); (case hsCT => k_is); (case hdCT => k_is); (case haCT => k_is); (case hnCT => k_is); (case htCT => k_is); (case hmCT => k_is); (case xkCT => k_is); (case xtCT => k_is); (case xiCT => k_exc); (case hgCC => k_is); (case hkCC => k_is); (case hsCC => k_is); (case hdCC => k_is); (case haCC => k_is); (case hnCC => k_is); (case htCC => k_is); (case hmCC => k_is); (case xkCC => k_is); (case xtCC => k_is); (case xiCC => k_exc); (case lc => k_is); (case lv11 => (first | rfl | kernel_rfl)); (case nTP => (first | kernel_rfl | rfl | decide +kernel)); (case hcd => (first | kernel_rfl | rfl | decide +kernel))
