import PyProof.Rows.All
import Wide.All
import OpenK.AllK
import Wide.FinOn
import HandS.ForMost
import HandS.ForExc
import HandS.Flow
import HandS.DictComp
import HandS.Conv
import HandS.Walk
import HandS.Zip
import HandS.IsInst
import HandS.Deep
import HandS.Wide
import HandS.WideMore
import HandS.WideBits
import HandS.TupAny
import HandS.TupMul
import HandS.TupLe
import HandS.SortKw
import HandS.RaiseMore
import HandS.Small
import HandS.Style
import HandS.BoundDict
import HandS.SetKeys
import KE.SortData
import KE.KDictPairs
import HandS.TupLen
import PySem.Challenge.RW_shatterlots_k84_whole_lines_and_sizes
set_option Elab.async false
set_option linter.all false
set_option maxRecDepth 1000000
set_option maxHeartbeats 0
section
namespace DL
open PySem PySem.Spec PyProof.Rows L2

/-! ### data, results -/
inductive D where
  | non | bl (b : Bool) | int (i : Int) | str (x : Str)
  | tup (l : List D) | lst (l : List D) | dct (l : List (D × D))
  | fn (x : Str) | rep (d : D) | scr (l : List Int) | ty (n : String)

structure Exc where
  cls : Str
  fld : Option (Str × D)

inductive Res (α : Type) where
  | ok (a : α) | exc (x : Exc) | stuck

def Res.bind {α β : Type} : Res α → (α → Res β) → Res β
  | .ok a, f => f a
  | .exc x, _ => .exc x
  | .stuck, _ => .stuck
def Res.opt {α : Type} : Option α → Res α
  | some a => .ok a
  | none => .stuck

/-- a slot: nothing known; a value that no one changes any more; a list or dict of this def's own (b: lent by the caller) -/
inductive Sl where
  | un | fz (d : D) | ow (b : Bool) (d : D)
abbrev Env := List Sl
/-- what an expression gives: a value; a new list or dict; what the slot i holds -/
inductive R where
  | fz (d : D) | ow (d : D) | sl (i : Nat)

def keyD : Key → D
  | .inl i => .int i
  | .inr x => .str x

mutual
def toPy : D → PyData
  | .non => .none
  | .bl b => .bool b
  | .int i => .int i
  | .str x => .str x
  | .tup l => .tuple (toPys l)
  | .lst l => .list (toPys l)
  | .dct _ => .dict []
  | .fn _ => .none
  | .rep _ => .none
  | .scr _ => .none
  | .ty _ => .none
def toPys : List D → List PyData
  | [] => []
  | d :: r => toPy d :: toPys r
end

/-- the law's script, a list of ints that is read alone -/
def ScrAt (K : PySem.W.Frag) (H : Hp) (a : Addr) (l : List Int) : Prop := (∃ o, H a = some (.frz o (.lst (l.map V.int)))) ∨ SqL K (fun _ => none) a (l.map V.int)
mutual
inductive Den (K : PySem.W.Frag) (mg : Str → Option Value) (Z : Addr → Prop) (H : Hp) : V → D → Prop
  | non : Den K mg Z H .non .non
  | bl (b : Bool) : Den K mg Z H (.bl b) (.bl b)
  | int (i : Int) : Den K mg Z H (.int i) (.int i)
  | str (x : Str) : Den K mg Z H (.str x) (.str x)
  | tup {a : Addr} {xs : List V} {ds : List D} : H a = some (.tup xs) → DenAll K mg Z H xs ds → Den K mg Z H (.ref a) (.tup ds)
  | mut {a : Addr} {d : D} : Z a → Cont K mg Z H a d → Den K mg Z H (.ref a) d
  | fn {x : Str} {f : Addr} : mg x = some (.ref f) → Den K mg Z H (.ref f) (.fn x)
  | rep (d : D) : Den K mg Z H (.str (toPy d).shown) (.rep d)
  | scr {a : Addr} {l : List Int} : ScrAt K H a l → Den K mg Z H (.ref a) (.scr l)
  | ty (n : String) : Den K mg Z H (.ty n) (.ty n)
inductive DenAll (K : PySem.W.Frag) (mg : Str → Option Value) (Z : Addr → Prop) (H : Hp) : List V → List D → Prop
  | nil : DenAll K mg Z H [] []
  | cons {v : V} {vs : List V} {d : D} {ds : List D} : Den K mg Z H v d → DenAll K mg Z H vs ds → DenAll K mg Z H (v :: vs) (d :: ds)
inductive Cont (K : PySem.W.Frag) (mg : Str → Option Value) (Z : Addr → Prop) (H : Hp) : Addr → D → Prop
  | lst {a : Addr} {xs : List V} {ds : List D} : H a = some (.lst xs) → DenAll K mg Z H xs ds → Cont K mg Z H a (.lst ds)
  | dK {a : Addr} {kvs : List (Key × V)} {l : List (D × D)} : Rd H a (.dK kvs) → l.map Prod.fst = kvs.map (fun p => keyD p.1) → DenAll K mg Z H (kvs.map Prod.snd) (l.map Prod.snd) → Cont K mg Z H a (.dct l)
  | dT {a : Addr} {kvs : List (List Key × V)} {l : List (D × D)} : Rd H a (.dT kvs) → l.map Prod.fst = kvs.map (fun p => .tup (p.1.map keyD)) → DenAll K mg Z H (kvs.map Prod.snd) (l.map Prod.snd) → Cont K mg Z H a (.dct l)
end

/-- owned places -/
def Od (ρ : Env) (σ : L2.St) (a : Addr) : Prop := ∃ (i : Nat) (b : Bool) (d : D), ρ[i]? = some (.ow b d) ∧ σ[i]? = some (some (.ref a))

structure Rel (K : PySem.W.Frag) (mg : Str → Option Value) (B : Addr) (Z : Addr → Prop) (H : Hp) (ρ : Env) (σ : L2.St) : Prop where
  len : ρ.length = σ.length
  dom : ∀ a, Z a → H a ≠ none
  fz : ∀ (i : Nat) d, ρ[i]? = some (.fz d) → ∃ v, σ[i]? = some (some v) ∧ Den K mg Z H v d
  ow : ∀ (i : Nat) b d, ρ[i]? = some (.ow b d) → ∃ a, σ[i]? = some (some (.ref a)) ∧ ¬ Z a ∧ Mut (H a) ∧ Cont K mg Z H a d ∧ (b = true → a = B)
  inj : ∀ (i j : Nat) b c d e a, ρ[i]? = some (.ow b d) → ρ[j]? = some (.ow c e) → σ[i]? = some (some (.ref a)) → σ[j]? = some (some (.ref a)) → i = j

/-- a dict may be locked for good -/
def isDct : HO → Bool
  | .dK _ => true
  | .dT _ => true
  | _ => false
abbrev Kept (H H' : Hp) (O : Addr → Prop) : Prop := ∀ a o, H a = some o → ¬ O a → H' a = some o ∨ (isDct o = true ∧ ∃ f, H' a = some (.frz f o))
structure Step (Z : Addr → Prop) (H : Hp) (O : Addr → Prop) (Z' : Addr → Prop) (H' : Hp) (O' : Addr → Prop) : Prop where
  k1 : ∀ a o, H a = some o → ¬ O a → ¬ Z' a → H' a = some o
  k2 : Kept H H' O
  z : ∀ a, Z a → Z' a
  n : ∀ a, Z' a → Z a ∨ H a = none ∨ O a
  o : ∀ a, O' a → H a = none ∨ O a
  p : ∀ a, H a ≠ none → H' a ≠ none
  d : ∀ a, Z' a → Z a ∨ H' a ≠ none

section
variable {K : PySem.W.Frag} {mg : Str → Option Value} {Z Z' Z1 Z2 : Addr → Prop} {H H' H1 H2 : Hp} {O O' O1 O2 : Addr → Prop} {ρ ρ' ρ1 ρ2 : Env} {σ σ' : L2.St} {B : Addr}

theorem Rd.some {H : Hp} {a : Addr} {u : HO} (r : Rd H a u) : ∃ o, H a = some o := by
  rcases r with r | ⟨o, r⟩
  · exact ⟨_, r⟩
  · exact ⟨_, r⟩
theorem Rd.of_mut {H : Hp} {a : Addr} {u : HO} (r : Rd H a u) (m : Mut (H a)) : H a = Option.some u := by
  rcases r with r | ⟨o, r⟩
  · exact r
  · rw [r] at m; exact m.elim
theorem mut_some {H : Hp} {a : Addr} (m : Mut (H a)) : H a ≠ none := fun e => by rw [e] at m; exact m

theorem Kept.all (k : ∀ a o, H a = some o → H' a = some o) : Kept H H' O := fun a o e _ => .inl (k a o e)
theorem Kept.rd (k : Kept H H' O) {a : Addr} {u : HO} (r : Rd H a u) (n : ¬ O a) : Rd H' a u := by
  rcases r with r | ⟨o, r⟩
  · rcases k a _ r n with q | ⟨_, f, q⟩
    · exact .inl q
    · exact .inr ⟨f, q⟩
  · rcases k a _ r n with q | ⟨q, _⟩
    · exact .inr ⟨o, q⟩
    · cases q
theorem Kept.lst (k : Kept H H' O) {a : Addr} {xs : List V} (r : H a = some (.lst xs)) (n : ¬ O a) : H' a = some (.lst xs) := by
  rcases k a _ r n with q | ⟨q, _⟩
  · exact q
  · cases q
theorem Step.refl : Step Z H O Z H O :=
  ⟨fun _ _ e _ _ => e, fun _ _ e _ => .inl e, fun _ z => z, fun _ z => .inl z, fun _ z => .inr z, fun _ z => z, fun _ z => .inl z⟩
theorem Step.trans (a : Step Z H O Z1 H1 O1) (b : Step Z1 H1 O1 Z2 H2 O2) : Step Z H O Z2 H2 O2 where
  k1 := fun x o e n nz => b.k1 x o (a.k1 x o e n fun z => nz (b.z x z)) (fun z => (a.o x z).elim (fun q => by rw [q] at e; cases e) n) nz
  k2 := fun x o e n => by
    have n1 : ¬ O1 x := fun z => (a.o x z).elim (fun q => by rw [q] at e; cases e) n
    rcases a.k2 x o e n with q | ⟨q, f, h⟩
    · exact b.k2 x o q n1
    · rcases b.k2 x _ h n1 with h | ⟨h, _⟩
      · exact .inr ⟨q, f, h⟩
      · cases h
  z := fun x z => b.z x (a.z x z)
  n := fun x z => by
    rcases b.n x z with q | q | q
    · exact a.n x q
    · by_cases h : H x = none
      · exact .inr (.inl h)
      · exact absurd q (a.p x h)
    · exact .inr (a.o x q)
  o := fun x z => by
    rcases b.o x z with q | q
    · by_cases h : H x = none
      · exact .inl h
      · exact absurd q (a.p x h)
    · exact a.o x q
  p := fun x h => b.p x (a.p x h)
  d := fun x z => (b.d x z).elim (fun q => (a.d x q).elim .inl fun q => .inr (b.p x q)) .inr
/-- the owned places behind may be told otherwise -/
theorem Step.own (a : Step Z H O Z1 H1 O1) (h : ∀ x, O2 x → H x = none ∨ O x) : Step Z H O Z1 H1 O2 := ⟨a.k1, a.k2, a.z, a.n, h, a.p, a.d⟩

mutual
theorem Den.step (hk : Kept H H' O) (hz : ∀ a, Z a → Z' a) (hO : ∀ a, O a → ¬ Z a ∧ Mut (H a)) : ∀ {v : V} {d : D}, Den K mg Z H v d → Den K mg Z' H' v d
  | _, _, .non => .non
  | _, _, .bl b => .bl b
  | _, _, .int i => .int i
  | _, _, .str x => .str x
  | _, _, .tup (a := a) (xs := xs) h t => by
    refine .tup ?_ (DenAll.step hk hz hO t)
    rcases hk a _ h (fun o => by
      have m := (hO a o).2
      rw [h] at m; exact m) with q | ⟨q, _⟩
    · exact q
    · cases q
  | _, _, .mut (a := a) z c => .mut (hz a z) (Cont.step hk hz hO (fun o => (hO a o).1 z) c)
  | _, _, .fn h => .fn h
  | _, _, .rep d => .rep d
  | _, _, .ty n => .ty n
  | _, _, .scr (a := a) h => by
    refine .scr ?_
    rcases h with ⟨o, h⟩ | h
    · rcases hk a _ h (fun q => by
        have m := (hO a q).2
        rw [h] at m; exact m) with q | ⟨q, _⟩
      · exact .inl ⟨o, q⟩
      · cases q
    · exact .inr h
theorem DenAll.step (hk : Kept H H' O) (hz : ∀ a, Z a → Z' a) (hO : ∀ a, O a → ¬ Z a ∧ Mut (H a)) : ∀ {vs : List V} {ds : List D}, DenAll K mg Z H vs ds → DenAll K mg Z' H' vs ds
  | _, _, .nil => .nil
  | _, _, .cons h t => .cons (Den.step hk hz hO h) (DenAll.step hk hz hO t)
theorem Cont.step (hk : Kept H H' O) (hz : ∀ a, Z a → Z' a) (hO : ∀ a, O a → ¬ Z a ∧ Mut (H a)) : ∀ {a : Addr} {d : D}, ¬ O a → Cont K mg Z H a d → Cont K mg Z' H' a d
  | a, _, n, .lst r t => .lst (hk.lst r n) (DenAll.step hk hz hO t)
  | a, _, n, .dK r e t => .dK (hk.rd r n) e (DenAll.step hk hz hO t)
  | a, _, n, .dT r e t => .dT (hk.rd r n) e (DenAll.step hk hz hO t)
end

theorem Rel.owned (r : Rel K mg B Z H ρ σ) : ∀ a, Od ρ σ a → ¬ Z a ∧ Mut (H a) := fun a ⟨i, b, d, e, es⟩ => by
  obtain ⟨c, e', nz, m, _⟩ := r.ow i b d e
  rw [es] at e'
  cases e'
  exact ⟨nz, m⟩
theorem Rel.den (r : Rel K mg B Z H ρ σ) (s : Step Z H (Od ρ σ) Z' H' O') {v : V} {d : D} (h : Den K mg Z H v d) : Den K mg Z' H' v d := h.step s.k2 s.z r.owned
theorem Rel.dens (r : Rel K mg B Z H ρ σ) (s : Step Z H (Od ρ σ) Z' H' O') {v : List V} {d : List D} (h : DenAll K mg Z H v d) : DenAll K mg Z' H' v d := h.step s.k2 s.z r.owned
theorem Den.zmono (hz : ∀ a, Z a → Z' a) {v : V} {d : D} (h : Den K mg Z H v d) : Den K mg Z' H v d := h.step (O := fun _ => False) (.all fun _ _ e => e) hz fun _ h => h.elim
theorem DenAll.zmono (hz : ∀ a, Z a → Z' a) {v : List V} {d : List D} (h : DenAll K mg Z H v d) : DenAll K mg Z' H v d := h.step (O := fun _ => False) (.all fun _ _ e => e) hz fun _ h => h.elim
theorem Cont.zmono (hz : ∀ a, Z a → Z' a) {v : Addr} {d : D} (h : Cont K mg Z H v d) : Cont K mg Z' H v d := h.step (O := fun _ => False) (.all fun _ _ e => e) hz (fun _ h => h.elim) fun h => h
/-- new things are laid beside -/
theorem Den.grown (k : ∀ a o, H a = some o → H' a = some o) {v : V} {d : D} (h : Den K mg Z H v d) : Den K mg Z H' v d := h.step (O := fun _ => False) (.all k) (fun _ z => z) fun _ h => h.elim
theorem DenAll.grown (k : ∀ a o, H a = some o → H' a = some o) {v : List V} {d : List D} (h : DenAll K mg Z H v d) : DenAll K mg Z H' v d := h.step (O := fun _ => False) (.all k) (fun _ z => z) fun _ h => h.elim
theorem Cont.grown (k : ∀ a o, H a = some o → H' a = some o) {v : Addr} {d : D} (h : Cont K mg Z H v d) : Cont K mg Z H' v d := h.step (O := fun _ => False) (.all k) (fun _ z => z) (fun _ h => h.elim) fun h => h

/-- a value as it is looked at now -/
def Pk (K : PySem.W.Frag) (mg : Str → Option Value) (Z : Addr → Prop) (H : Hp) (v : V) (d : D) : Prop := Den K mg Z H v d ∨ ∃ a, v = .ref a ∧ Cont K mg Z H a d
theorem Pk.non {v : V} (h : Pk K mg Z H v .non) : v = .non := by
  rcases h with h | ⟨a, _, c⟩
  · cases h with
    | non => rfl
    | «mut» _ c => cases c
  · cases c
theorem Pk.bl {v : V} {b : Bool} (h : Pk K mg Z H v (.bl b)) : v = .bl b := by
  rcases h with h | ⟨a, _, c⟩
  · cases h with
    | bl _ => rfl
    | «mut» _ c => cases c
  · cases c
theorem Pk.int {v : V} {b : Int} (h : Pk K mg Z H v (.int b)) : v = .int b := by
  rcases h with h | ⟨a, _, c⟩
  · cases h with
    | int _ => rfl
    | «mut» _ c => cases c
  · cases c
theorem Pk.str {v : V} {b : Str} (h : Pk K mg Z H v (.str b)) : v = .str b := by
  rcases h with h | ⟨a, _, c⟩
  · cases h with
    | str _ => rfl
    | «mut» _ c => cases c
  · cases c
theorem Pk.rep {v : V} {d : D} (h : Pk K mg Z H v (.rep d)) : v = .str (toPy d).shown := by
  rcases h with h | ⟨a, _, c⟩
  · cases h with
    | rep _ => rfl
    | «mut» _ c => cases c
  · cases c
theorem Pk.ty {v : V} {n : String} (h : Pk K mg Z H v (.ty n)) : v = .ty n := by
  rcases h with h | ⟨a, _, c⟩
  · cases h with
    | ty _ => rfl
    | «mut» _ c => cases c
  · cases c
theorem ScrAt.sq {a : Addr} {l : List Int} (h : ScrAt K H a l) : SqL K H a (l.map V.int) := by
  rcases h with ⟨o, h⟩ | h
  · exact .inl (.inr ⟨o, h⟩)
  · rcases h with (h | ⟨o, h⟩) | h
    · cases h
    · cases h
    · exact .inr h
theorem Pk.scr {v : V} {l : List Int} (h : Pk K mg Z H v (.scr l)) : ∃ a, v = .ref a ∧ SqL K H a (l.map V.int) := by
  rcases h with h | ⟨a, _, c⟩
  · cases h with
    | scr h => exact ⟨_, rfl, h.sq⟩
    | «mut» _ c => cases c
  · cases c
theorem Pk.fn {v : V} {x : Str} (h : Pk K mg Z H v (.fn x)) : ∃ f, v = .ref f ∧ mg x = some (.ref f) := by
  rcases h with h | ⟨a, _, c⟩
  · cases h with
    | fn e => exact ⟨_, rfl, e⟩
    | «mut» _ c => cases c
  · cases c
theorem Pk.tupX {v : V} {ds : List D} (h : Pk K mg Z H v (.tup ds)) : ∃ a xs, v = .ref a ∧ H a = some (.tup xs) ∧ DenAll K mg Z H xs ds := by
  rcases h with h | ⟨a, _, c⟩
  · cases h with
    | tup h t => exact ⟨_, _, rfl, h, t⟩
    | «mut» _ c => cases c
  · cases c
theorem Pk.tup {v : V} {ds : List D} (h : Pk K mg Z H v (.tup ds)) : ∃ a xs, v = .ref a ∧ SqT K H a xs ∧ DenAll K mg Z H xs ds := by
  rcases h with h | ⟨a, _, c⟩
  · cases h with
    | tup h t => exact ⟨_, _, rfl, .of h, t⟩
    | «mut» _ c => cases c
  · cases c
theorem Pk.cont {v : V} {ds : List D} (h : Pk K mg Z H v (.lst ds)) : ∃ a, v = .ref a ∧ Cont K mg Z H a (.lst ds) := by
  rcases h with h | h
  · cases h with
    | «mut» _ c => exact ⟨_, rfl, c⟩
  · exact h
theorem Pk.contD {v : V} {ds : List (D × D)} (h : Pk K mg Z H v (.dct ds)) : ∃ a, v = .ref a ∧ Cont K mg Z H a (.dct ds) := by
  rcases h with h | h
  · cases h with
    | «mut» _ c => exact ⟨_, rfl, c⟩
  · exact h
theorem Pk.lst {v : V} {ds : List D} (h : Pk K mg Z H v (.lst ds)) : ∃ a xs, v = .ref a ∧ H a = some (.lst xs) ∧ DenAll K mg Z H xs ds := by
  obtain ⟨a, e, c⟩ := h.cont
  cases c with
  | lst r t => exact ⟨a, _, e, r, t⟩
theorem DenAll.length : ∀ {vs : List V} {ds : List D}, DenAll K mg Z H vs ds → vs.length = ds.length
  | _, _, .nil => rfl
  | _, _, .cons _ t => by rw [List.length_cons, List.length_cons, t.length]
theorem DenAll.get : ∀ {vs : List V} {ds : List D} {i : Nat} {d : D}, DenAll K mg Z H vs ds → ds[i]? = some d → ∃ v, vs[i]? = some v ∧ Den K mg Z H v d
  | _, _, i, d, .nil, e => by simp at e
  | _, _, 0, d, .cons h t, e => by
    cases e
    exact ⟨_, rfl, h⟩
  | _, _, i + 1, d, .cons h t, e => by
    obtain ⟨v, e', h'⟩ := DenAll.get (i := i) t (by simpa using e)
    exact ⟨v, by simpa using e', h'⟩
theorem DenAll.get' : ∀ {vs : List V} {ds : List D} {i : Nat} {v : V}, DenAll K mg Z H vs ds → vs[i]? = some v → ∃ d, ds[i]? = some d ∧ Den K mg Z H v d
  | _, _, i, d, .nil, e => by simp at e
  | _, _, 0, d, .cons h t, e => by
    cases e
    exact ⟨_, rfl, h⟩
  | _, _, i + 1, d, .cons h t, e => by
    obtain ⟨v, e', h'⟩ := DenAll.get' (i := i) t (by simpa using e)
    exact ⟨v, by simpa using e', h'⟩
theorem DenAll.append : ∀ {vs ws : List V} {ds es : List D}, DenAll K mg Z H vs ds → DenAll K mg Z H ws es → DenAll K mg Z H (vs ++ ws) (ds ++ es)
  | _, _, _, _, .nil, t => t
  | _, _, _, _, .cons h t, t' => .cons h (t.append t')
theorem DenAll.one {v : V} {d : D} (h : Den K mg Z H v d) : DenAll K mg Z H [v] [d] := .cons h .nil
end
end DL
end
section
namespace DL
open PySem PySem.Spec PyProof.Rows L2
section
variable {K : PySem.W.Frag} {mg : Str → Option Value} {Z Z' Z1 Z2 : Addr → Prop} {H H' H1 H2 H3 : Hp} {O O' O1 O2 : Addr → Prop} {ρ ρ' ρ1 ρ2 : Env} {σ σ' : L2.St} {B : Addr}

theorem PE.imp {X : Cx} {e : Expr} {t t' : TE} (h : PE X e t) (hi : ∀ σ H Q, t' σ H Q → t σ H Q) : PE X e t' := ⟨fun pins s σ H Q I q => h.run pins s σ H Q I (hi _ _ _ q)⟩
theorem PT.imp {X : Cx} {e : Expr} {t t' : TT} (h : PT X e t) (hi : ∀ σ H Q, t' σ H Q → t σ H Q) : PT X e t' := ⟨fun pins s σ H Q I q => h.run pins s σ H Q I (hi _ _ _ q)⟩
theorem PW.imp {X : Cx} {e : Expr} {t t' : TT} (h : PW X e t) (hi : ∀ σ H Q, t' σ H Q → t σ H Q) : PW X e t' := ⟨fun wh pins s σ H Q I q => h.run wh pins s σ H Q I (hi _ _ _ q)⟩
theorem PA.imp {X : Cx} {e : List Expr} {t t' : TA} (h : PA X e t) (hi : ∀ σ H Q, t' σ H Q → t σ H Q) : PA X e t' := ⟨fun pos pins s σ H Q I q => h.run pos pins s σ H Q I (hi _ _ _ q)⟩
theorem PS.imp {X : Cx} {e : Stmt} {t t' : TS} (h : PS X e t) (hi : ∀ D σ H, t' D σ H → t D σ H) : PS X e t' := ⟨fun pins s σ H D I q => h.run pins s σ H D I (hi _ _ _ q)⟩
theorem PSs.imp {X : Cx} {e : List Stmt} {t t' : TS} (h : PSs X e t) (hi : ∀ D σ H, t' D σ H → t D σ H) : PSs X e t' := ⟨fun pins s σ H D I q => h.run pins s σ H D I (hi _ _ _ q)⟩
theorem PI.imp {X : Cx} {tg e : Expr} {t t' : TI} (h : PI X tg e t) (hi : ∀ σ H Q, t' σ H Q → t σ H Q) : PI X tg e t' := ⟨fun pins s σ H Q I q => h.run pins s σ H Q I (hi _ _ _ q)⟩

/-! ### readings of data -/
/-- a new list or dict, or a value -/
def NewV (K : PySem.W.Frag) (mg : Str → Option Value) (Z : Addr → Prop) (H H' : Hp) (w : V) : D → Prop
  | .lst l => (∀ a o, H a = some o → H' a = some o) ∧ ∃ a, w = .ref a ∧ H a = none ∧ Mut (H' a) ∧ Cont K mg Z H' a (.lst l)
  | .dct l => (∀ a o, H a = some o → H' a = some o) ∧ ∃ a, w = .ref a ∧ H a = none ∧ Mut (H' a) ∧ Cont K mg Z H' a (.dct l)
  | d => (∀ a o, H a = some o → H' a = some o) ∧ Den K mg Z H' w d
def mk : D → R
  | .lst l => .ow (.lst l)
  | .dct l => .ow (.dct l)
  | d => .fz d

def RDen (K : PySem.W.Frag) (mg : Str → Option Value) (H : Hp) (Z' : Addr → Prop) (H' : Hp) (ρ' : Env) (σ : L2.St) (v : V) : R → Prop
  | .fz d => Den K mg Z' H' v d
  | .ow d => ∃ a, v = .ref a ∧ H a = none ∧ ¬ Z' a ∧ Mut (H' a) ∧ ¬ Od ρ' σ a ∧ Cont K mg Z' H' a d
  | .sl i => σ[i]? = some (some v)
/-- an operand: what was new stands still now -/
def PDen (K : PySem.W.Frag) (mg : Str → Option Value) (Z' : Addr → Prop) (H' : Hp) (σ : L2.St) (v : V) : R → Prop
  | .fz d => Den K mg Z' H' v d
  | .ow d => Den K mg Z' H' v d
  | .sl i => σ[i]? = some (some v)
def XDen (K : PySem.W.Frag) (mg : Str → Option Value) (Z : Addr → Prop) (H : Hp) (x : Exc) (cls : Value) (dx : Option Addr) : Prop :=
  mg x.cls = some cls ∧ ∀ f d, x.fld = some (f, d) → ∃ p v, dx = some p ∧ H p = some (.xd [(f, v)]) ∧ Den K mg Z H v d

/-- the end of an evaluation -/
def Fin {α β : Type} (K : PySem.W.Frag) (mg : Str → Option Value) (W : WX) (Dn : (Addr → Prop) → Hp → Env → β → α → Prop) (B : Addr) (Z : Addr → Prop) (H : Hp) (ρ : Env) (σ : L2.St) (res : Res (α × Env)) (Q : β → Hp → Prop) : Prop :=
  match res with
  | .ok (r, ρ') => ∀ v Z' H', Rel K mg B Z' H' ρ' σ → Step Z H (Od ρ σ) Z' H' (Od ρ' σ) → Dn Z' H' ρ' v r → Q v H'
  | .exc x => ∀ cls dx Z' H', Step Z H (Od ρ σ) Z' H' (Od ρ σ) → XDen K mg Z' H' x cls dx → W cls dx σ H'
  | .stuck => False

abbrev ME := Env → Res (R × Env)
abbrev MA := Env → Res (List R × Env)
abbrev MT := Env → Res (Bool × Env)

inductive PDens (K : PySem.W.Frag) (mg : Str → Option Value) (Z' : Addr → Prop) (H' : Hp) (σ : L2.St) : List V → List R → Prop
  | nil : PDens K mg Z' H' σ [] []
  | cons {v : V} {vs : List V} {r : R} {rs : List R} : PDen K mg Z' H' σ v r → PDens K mg Z' H' σ vs rs → PDens K mg Z' H' σ (v :: vs) (r :: rs)

def tD (K : PySem.W.Frag) (mg : Str → Option Value) (W : WX) (m : ME) : TE := fun σ H Q => ∃ B Z ρ, Rel K mg B Z H ρ σ ∧ Fin K mg W (fun Z' H' ρ' v r => RDen K mg H Z' H' ρ' σ v r) B Z H ρ σ (m ρ) Q
def tA (K : PySem.W.Frag) (mg : Str → Option Value) (W : WX) (m : MA) : TA := fun σ H Q => ∃ B Z ρ, Rel K mg B Z H ρ σ ∧ Fin K mg W (fun Z' H' _ v r => PDens K mg Z' H' σ v r) B Z H ρ σ (m ρ) Q
def tT (K : PySem.W.Frag) (mg : Str → Option Value) (W : WX) (m : MT) : TT := fun σ H Q => ∃ B Z ρ, Rel K mg B Z H ρ σ ∧ Fin K mg W (fun _ _ _ v r => v = r) B Z H ρ σ (m ρ) Q

abbrev DE (X : Cx) (W : WX) (e : Expr) (m : ME) : Prop := PE X e (tD X.K X.mg W m)
abbrev DA (X : Cx) (W : WX) (e : List Expr) (m : MA) : Prop := PA X e (tA X.K X.mg W m)
abbrev DT (X : Cx) (W : WX) (e : Expr) (m : MT) : Prop := PT X e (tT X.K X.mg W m)
abbrev DW (X : Cx) (W : WX) (e : Expr) (m : MT) : Prop := PW X e (tT X.K X.mg W m)

/-! ### moving on -/
theorem Rel.frz (r : Rel K mg B Z H ρ σ) {a : Addr} (ha : H a ≠ none) (no : ¬ Od ρ σ a) : Rel K mg B (fun b => Z b ∨ b = a) H ρ σ where
  len := r.len
  dom := fun b z => z.elim (r.dom b) fun e => by rw [e]; exact ha
  fz := fun i d e => let ⟨v, e', h⟩ := r.fz i d e; ⟨v, e', h.zmono fun _ z => .inl z⟩
  ow := fun i b d e => by
    obtain ⟨c, e', nz, m, h, hb⟩ := r.ow i b d e
    refine ⟨c, e', fun z => z.elim nz fun q => no ?_, m, h.zmono fun _ z => .inl z, hb⟩
    exact ⟨i, b, d, e, by rw [← q]; exact e'⟩
  inj := r.inj
theorem step_frz {a : Addr} (hn : H a = none ∨ O a ∨ Z a) (hd : H1 a ≠ none) (s : Step Z H O Z1 H1 O1) : Step Z H O (fun b => Z1 b ∨ b = a) H1 O1 where
  k1 := fun b o e n nz => s.k1 b o e n fun z => nz (.inl z)
  k2 := s.k2
  z := fun b z => .inl (s.z b z)
  n := fun b z => z.elim (s.n b) fun q => by
    rcases hn with h | h | h
    · exact .inr (.inl (by rw [q]; exact h))
    · exact .inr (.inr (by rw [q]; exact h))
    · exact .inl (by rw [q]; exact h)
  o := s.o
  p := s.p
  d := fun b z => z.elim (s.d b) fun q => .inr (by rw [q]; exact hd)

theorem Fin.move {α β : Type} {W : WX} {Dn : (Addr → Prop) → Hp → Env → β → α → Prop} {res : Res (α × Env)} {Q : β → Hp → Prop} {Dn' : (Addr → Prop) → Hp → Env → β → α → Prop}
    (hd : ∀ Z' H' ρ' v r, Dn' Z' H' ρ' v r → Dn Z' H' ρ' v r)
    (s : Step Z H (Od ρ σ) Z1 H1 (Od ρ1 σ)) (h : Fin K mg W Dn B Z H ρ σ res Q) : Fin K mg W Dn' B Z1 H1 ρ1 σ res Q := by
  cases res with
  | ok p => exact fun v Z' H' r st d => h v Z' H' r (s.trans st) (hd _ _ _ _ _ d)
  | exc x => exact fun cls dx Z' H' st d => h cls dx Z' H' ((s.trans st).own fun _ z => .inr z) d
  | stuck => exact h

theorem RDen.from {v : V} {r : R} (hp : ∀ a, H a ≠ none → H1 a ≠ none) (h : RDen K mg H1 Z' H' ρ' σ v r) : RDen K mg H Z' H' ρ' σ v r := by
  cases r with
  | fz d => exact h
  | sl i => exact h
  | ow d =>
    obtain ⟨a, e, n, q⟩ := h
    refine ⟨a, e, ?_, q⟩
    cases e' : H a with
    | none => rfl
    | some o => exact absurd n (hp a (by rw [e']; simp))

/-- an operand -/
theorem opd {W : WX} {ma : ME} {α β : Type} {Dn : (Addr → Prop) → Hp → Env → β → α → Prop} {f : R × Env → Res (α × Env)} {Q : β → Hp → Prop} {Q1 : VK} (rel : Rel K mg B Z H ρ σ) (h : Fin K mg W Dn B Z H ρ σ ((ma ρ).bind f) Q)
    (hq : ∀ v Z1 H1 r ρ1, Rel K mg B Z1 H1 ρ1 σ → Step Z H (Od ρ σ) Z1 H1 (Od ρ1 σ) → PDen K mg Z1 H1 σ v r → Fin K mg W Dn B Z1 H1 ρ1 σ (f (r, ρ1)) Q → Q1 v H1) : tD K mg W ma σ H Q1 := by
  refine ⟨B, Z, ρ, rel, ?_⟩
  cases e : ma ρ with
  | stuck => rw [e] at h; exact h
  | exc x => rw [e] at h; exact h
  | ok p =>
    obtain ⟨r, ρ1⟩ := p
    rw [e] at h
    intro v Z1 H1 rel1 st d
    have h' : Fin K mg W Dn B Z H ρ σ (f (r, ρ1)) Q := h
    cases r with
    | fz x => exact hq v Z1 H1 (.fz x) ρ1 rel1 st d (h'.move (fun _ _ _ _ _ q => q) st)
    | sl i => exact hq v Z1 H1 (.sl i) ρ1 rel1 st d (h'.move (fun _ _ _ _ _ q => q) st)
    | ow x =>
      obtain ⟨a, ev, hn, nz, m, no, c⟩ := d
      have st' := step_frz (a := a) (.inl hn) (mut_some m) st
      refine hq v (fun b => Z1 b ∨ b = a) H1 (.ow x) ρ1 (rel1.frz (mut_some m) no) st' ?_ (h'.move (fun _ _ _ _ _ q => q) st')
      subst ev
      exact .mut (.inr rfl) (c.zmono fun _ z => .inl z)

def peek (ρ : Env) : R → Option D
  | .fz d => some d
  | .ow d => some d
  | .sl i => match ρ[i]? with
    | some (.fz d) => some d
    | some (.ow _ d) => some d
    | _ => none
theorem PDen.step {v : V} {r : R} (rel : Rel K mg B Z H ρ σ) (s : Step Z H (Od ρ σ) Z' H' O') (h : PDen K mg Z H σ v r) : PDen K mg Z' H' σ v r := by
  cases r with
  | fz d => exact rel.den s h
  | ow d => exact rel.den s h
  | sl i => exact h
theorem PDens.step {vs : List V} {rs : List R} (rel : Rel K mg B Z H ρ σ) (s : Step Z H (Od ρ σ) Z' H' O') (h : PDens K mg Z H σ vs rs) : PDens K mg Z' H' σ vs rs := by
  induction h with
  | nil => exact .nil
  | cons h _ ih => exact .cons (h.step rel s) ih
theorem PDen.pk {v : V} {r : R} {d : D} (rel : Rel K mg B Z H ρ σ) (h : PDen K mg Z H σ v r) (e : peek ρ r = some d) : Pk K mg Z H v d := by
  cases r with
  | fz x => cases e; exact .inl h
  | ow x => cases e; exact .inl h
  | sl i =>
    have h : σ[i]? = some (some v) := h
    unfold peek at e
    cases q : ρ[i]? with
    | none => simp only [q] at e; cases e
    | some s =>
      simp only [q] at e
      cases s with
      | un => cases e
      | fz x =>
        cases e
        obtain ⟨u, e', hu⟩ := rel.fz i _ q
        rw [h] at e'; cases e'
        exact .inl hu
      | ow b x =>
        cases e
        obtain ⟨a, e', _, _, c, _⟩ := rel.ow i b _ q
        rw [h] at e'; cases e'
        exact .inr ⟨a, rfl, c⟩

/-- behind a pure operation -/
theorem rel_new (rel : Rel K mg B Z H ρ σ) (k : ∀ a o, H a = some o → H' a = some o) : Rel K mg B Z H' ρ σ ∧ Step Z H (Od ρ σ) Z H' (Od ρ σ) := by
  have nn : ∀ a, H a ≠ none → H' a ≠ none := fun a h q => by
    cases e : H a with
    | none => exact h e
    | some o => rw [k a o e] at q; cases q
  refine ⟨⟨rel.len, fun a z => nn a (rel.dom a z), fun i d e => ?_, fun i b d e => ?_, rel.inj⟩, ⟨fun a o e _ _ => k a o e, Kept.all k, fun _ z => z, fun _ z => .inl z, fun _ z => .inr z, nn, fun _ z => .inl z⟩⟩
  · obtain ⟨v, e', h⟩ := rel.fz i d e
    exact ⟨v, e', h.grown k⟩
  · obtain ⟨a, e', nz, m, c, hb⟩ := rel.ow i b d e
    refine ⟨a, e', nz, ?_, c.grown k, hb⟩
    cases q : H a with
    | none => rw [q] at m; exact m.elim
    | some o => rw [k a o q, ← q]; exact m
theorem NewV.keeps {w : V} {r : D} (n : NewV K mg Z H H' w r) : ∀ a o, H a = some o → H' a = some o := by cases r <;> exact n.1
theorem NewV.rden {w : V} {r : D} (rel : Rel K mg B Z H ρ σ) (n : NewV K mg Z H H' w r) : RDen K mg H Z H' ρ σ w (mk r) := by
  have far : ∀ {a : Addr}, H a = none → ¬ Z a ∧ ¬ Od ρ σ a := fun {a} h => ⟨fun z => rel.dom a z h, fun ⟨i, b, d, e, e'⟩ => by
    obtain ⟨c, q, _, m, _⟩ := rel.ow i b d e
    rw [e'] at q; cases q
    exact mut_some m h⟩
  cases r with
  | lst l =>
    obtain ⟨_, a, e, h0, m, c⟩ := n
    exact ⟨a, e, h0, (far h0).1, m, (far h0).2, c⟩
  | dct l =>
    obtain ⟨_, a, e, h0, m, c⟩ := n
    exact ⟨a, e, h0, (far h0).1, m, (far h0).2, c⟩
  | _ => exact n.2
/-- an evaluation that ends by a pure operation -/
theorem fin_new {W : WX} {w : V} {r : D} {Q : VK} {Hs : Hp} (rel : Rel K mg B Z H ρ σ) (hs : ∀ a, Hs a ≠ none → H a ≠ none) (h : Fin K mg W (fun Z' H' ρ' v r => RDen K mg Hs Z' H' ρ' σ v r) B Z H ρ σ (.ok (mk r, ρ)) Q)
    (n : NewV K mg Z H H' w r) : Q w H' := by
  obtain ⟨r1, s1⟩ := rel_new rel n.keeps
  exact h w Z H' r1 s1 ((n.rden rel).from hs)

/-! ### two operands -/
abbrev OpD (K : PySem.W.Frag) (mg : Str → Option Value) (r2 : R2) (g : D → D → Option D) : Prop :=
  ∀ (Z : Addr → Prop) (H : Hp) (x y : V) (d e r : D) (Q : VK), (∀ a, Z a → H a ≠ none) → Pk K mg Z H x d → Pk K mg Z H y e → g d e = some r → (∀ w H', NewV K mg Z H H' w r → Q w H') → r2 x y H Q
def fin2 (g : D → D → Option D) (ρ : Env) (p q : R) : Res (R × Env) := match peek ρ p, peek ρ q with
  | some d, some e => match g d e with
    | some r => .ok (mk r, ρ)
    | none => .stuck
  | _, _ => .stuck
def mOp (g : D → D → Option D) (ma mb : ME) : ME := fun ρ => (ma ρ).bind fun p => (mb p.2).bind fun q => fin2 g q.2 p.1 q.1
theorem fin2_ok {W : WX} {g : D → D → Option D} {r2 : R2} {p q : R} {x y : V} {Q : VK} {Hs : Hp} (hd : OpD K mg r2 g) (rel : Rel K mg B Z H ρ σ) (hs : ∀ a, Hs a ≠ none → H a ≠ none) (dx : PDen K mg Z H σ x p) (dy : PDen K mg Z H σ y q)
    (h : Fin K mg W (fun Z' H' ρ' v r => RDen K mg Hs Z' H' ρ' σ v r) B Z H ρ σ (fin2 g ρ p q) Q) : r2 x y H Q := by
  unfold fin2 at h
  cases e1 : peek ρ p with
  | none => rw [e1] at h; exact h.elim
  | some d =>
    cases e2 : peek ρ q with
    | none => rw [e1, e2] at h; exact h.elim
    | some e =>
      rw [e1, e2] at h
      simp only at h
      cases e3 : g d e with
      | none => rw [e3] at h; exact h.elim
      | some r =>
        rw [e3] at h
        exact hd Z H x y d e r Q rel.dom (dx.pk rel e1) (dy.pk rel e2) e3 fun w H' n => fin_new rel hs h n
theorem tOp_ok {W : WX} {g : D → D → Option D} {r2 : R2} {ma mb : ME} (hd : OpD K mg r2 g) {σ : L2.St} {H : Hp} {Q : VK} (h : tD K mg W (mOp g ma mb) σ H Q) : tOp r2 (tD K mg W ma) (tD K mg W mb) σ H Q := by
  obtain ⟨B, Z, ρ, rel, h⟩ := h
  refine opd rel h fun x Z1 H1 p ρ1 rel1 s1 dx h1 => ?_
  refine opd rel1 h1 fun y Z2 H2 q ρ2 rel2 s2 dy h2 => ?_
  exact fin2_ok hd rel2 (s1.trans s2).p (dx.step rel1 s2) dy h2
theorem de_op {X : Cx} {W : WX} {op : Operator} {a b : Expr} {pos : Pos} {r2 : R2} {g : D → D → Option D} {ma mb : ME} (ho : OpR X (binaryOp op) r2) (hd : OpD X.K X.mg r2 g) (ha : DE X W a ma) (hb : DE X W b mb) : DE X W (.BinOp a op b pos) (mOp g ma mb) :=
  PE.imp (pe_op ho ha hb) fun _ _ _ h => tOp_ok hd h
theorem de_cmp {X : Cx} {W : WX} {op : CmpOp} {a b : Expr} {pos : Pos} {r2 : R2} {g : D → D → Option D} {ma mb : ME} (ho : OpR X (compareOp op) r2) (hd : OpD X.K X.mg r2 g) (ha : DE X W a ma) (hb : DE X W b mb) (hm : behindInMarks op b = false) : DE X W (.Compare a [op] [b] pos) (mOp g ma mb) :=
  PE.imp (pe_cmpR ho ha hb hm) fun _ _ _ h => tOp_ok hd h
theorem de_ix {X : Cx} {W : WX} {a b : Expr} {pos : Pos} {r2 : R2} {g : D → D → Option D} {ma mb : ME} (ho : IxR X r2) (hd : OpD X.K X.mg r2 g) (ha : DE X W a ma) (hb : DE X W b mb) (hs : PlainIx b) : DE X W (.Subscript a b pos) (mOp g ma mb) :=
  PE.imp (pe_ix ho ha hb hs) fun _ _ _ h => tOp_ok hd h

/-! ### names, constants -/
def mC (d : D) : ME := fun ρ => .ok (mk d, ρ)
def mVar (i : Nat) : ME := fun ρ => match ρ[i]? with
  | some (.fz d) => .ok (.fz d, ρ)
  | some (.ow _ _) => .ok (.sl i, ρ)
  | _ => .stuck
theorem de_c {X : Cx} {W : WX} {e : Expr} {v : V} {d : D} (h : PE X e (tC v)) (hd : ∀ Z H, NewV X.K X.mg Z H H v d) : DE X W e (mC d) := PE.imp h fun σ H Q ⟨B, Z, ρ, rel, h⟩ => fin_new (Hs := H) rel (fun _ z => z) h (hd Z H)
theorem de_int {X : Cx} {W : WX} {i : Int} {j pos} : DE X W (.Constant (.int i) j pos) (mC (.int i)) := de_c pe_int fun _ _ => ⟨fun _ _ e => e, .int i⟩
theorem de_bl {X : Cx} {W : WX} {i : Bool} {j pos} : DE X W (.Constant (.bool i) j pos) (mC (.bl i)) := de_c pe_bl fun _ _ => ⟨fun _ _ e => e, .bl i⟩
theorem de_non {X : Cx} {W : WX} {j pos} : DE X W (.Constant .none j pos) (mC .non) := de_c pe_non fun _ _ => ⟨fun _ _ e => e, .non⟩
theorem de_str {X : Cx} {W : WX} {x : Str} {j pos} : DE X W (.Constant (.str x) j pos) (mC (.str x)) := de_c pe_str fun _ _ => ⟨fun _ _ e => e, .str x⟩
theorem de_var {X : Cx} {W : WX} (i : Nat) {x : Str} {pos : Pos} (hN : X.N[i]? = some x := by rfl) (hv : Vis X.env.scope x := by first | exact Or.inl rfl | exact Or.inr (Or.inl rfl) | exact Or.inr (Or.inr rfl)) (hd : (x == ("__debug__" : Str)) = false := by decide)
    (hcd : (x == ("__classdict__" : Str)) = false := by decide) : DE X W (.Name x pos) (mVar i) := PE.imp (pe_var hN hv hd hcd) fun σ H Q ⟨B, Z, ρ, rel, h⟩ => by
  unfold mVar at h
  cases e : ρ[i]? with
  | none => rw [e] at h; exact h.elim
  | some s =>
    rw [e] at h
    cases s with
    | un => exact h.elim
    | fz d =>
      obtain ⟨v, e', hv⟩ := rel.fz i d e
      exact ⟨v, e', h v Z H rel .refl hv⟩
    | ow b d =>
      obtain ⟨a, e', _⟩ := rel.ow i b d e
      exact ⟨.ref a, e', h (.ref a) Z H rel .refl e'⟩

/-! ### lists of operands -/
def mNil : MA := fun ρ => .ok ([], ρ)
def mCons (ma : ME) (mr : MA) : MA := fun ρ => (ma ρ).bind fun p => (mr p.2).bind fun q => .ok (p.1 :: q.1, q.2)
theorem da_nil {X : Cx} {W : WX} : DA X W [] mNil := PA.imp pa_nil fun σ H Q ⟨B, Z, ρ, rel, h⟩ => h [] Z H rel .refl .nil
/-- an operand list -/
theorem opds {W : WX} {ma : MA} {α β : Type} {Dn : (Addr → Prop) → Hp → Env → β → α → Prop} {f : List R × Env → Res (α × Env)} {Q : β → Hp → Prop} {Q1 : List V → Hp → Prop} (rel : Rel K mg B Z H ρ σ) (h : Fin K mg W Dn B Z H ρ σ ((ma ρ).bind f) Q)
    (hq : ∀ v Z1 H1 r ρ1, Rel K mg B Z1 H1 ρ1 σ → Step Z H (Od ρ σ) Z1 H1 (Od ρ1 σ) → PDens K mg Z1 H1 σ v r → Fin K mg W Dn B Z1 H1 ρ1 σ (f (r, ρ1)) Q → Q1 v H1) : tA K mg W ma σ H Q1 := by
  refine ⟨B, Z, ρ, rel, ?_⟩
  cases e : ma ρ with
  | stuck => rw [e] at h; exact h
  | exc x => rw [e] at h; exact h
  | ok p =>
    obtain ⟨r, ρ1⟩ := p
    rw [e] at h
    intro v Z1 H1 rel1 st d
    have h' : Fin K mg W Dn B Z H ρ σ (f (r, ρ1)) Q := h
    exact hq v Z1 H1 _ ρ1 rel1 st d (h'.move (fun _ _ _ _ _ q => q) st)
theorem da_cons {X : Cx} {W : WX} {e : Expr} {es : List Expr} {ma : ME} {mr : MA} (ha : DE X W e ma) (hr : DA X W es mr) (hs : starEach (e :: es) X.env = (false, eval e X.env) :: starEach es X.env := by rfl) : DA X W (e :: es) (mCons ma mr) :=
  PA.imp (pa_cons ha hr hs) fun σ H Q ⟨B, Z, ρ, rel, h⟩ => by
    refine opd rel h fun x Z1 H1 p ρ1 rel1 s1 dx h1 => ?_
    refine opds rel1 h1 fun xs Z2 H2 q ρ2 rel2 s2 dxs h2 => ?_
    exact h2 _ Z2 H2 rel2 .refl (.cons (dx.step rel1 s2) dxs)

def peeks (ρ : Env) : List R → Option (List D)
  | [] => some []
  | r :: rs => match peek ρ r, peeks ρ rs with
    | some d, some ds => some (d :: ds)
    | _, _ => none
inductive Pks (K : PySem.W.Frag) (mg : Str → Option Value) (Z : Addr → Prop) (H : Hp) : List V → List D → Prop
  | nil : Pks K mg Z H [] []
  | cons {v : V} {vs : List V} {d : D} {ds : List D} : Pk K mg Z H v d → Pks K mg Z H vs ds → Pks K mg Z H (v :: vs) (d :: ds)
theorem PDens.pks {vs : List V} {rs : List R} (rel : Rel K mg B Z H ρ σ) (h : PDens K mg Z H σ vs rs) : ∀ {ds : List D}, peeks ρ rs = some ds → Pks K mg Z H vs ds := by
  induction h with
  | nil => intro ds e; cases e; exact .nil
  | @cons v vs r rs h _ ih =>
    intro ds e
    unfold peeks at e
    cases e1 : peek ρ r with
    | none => simp only [e1] at e; cases e
    | some d =>
      cases e2 : peeks ρ rs with
      | none => simp only [e1, e2] at e; cases e
      | some t =>
        simp only [e1, e2] at e
        cases e
        exact .cons (h.pk rel e1) (ih e2)

/-- a built-in of values -/
abbrev CallD (K : PySem.W.Frag) (mg : Str → Option Value) (r : List V → Hp → VK → Prop) (g : List D → Option D) : Prop :=
  ∀ (Z : Addr → Prop) (H : Hp) (xs : List V) (ds : List D) (rr : D) (Q : VK), (∀ a, Z a → H a ≠ none) → Pks K mg Z H xs ds → g ds = some rr → (∀ w H', NewV K mg Z H H' w rr → Q w H') → r xs H Q
def finN (g : List D → Option D) (ρ : Env) (p : List R) : Res (R × Env) := match peeks ρ p with
  | some d => match g d with
    | some r => .ok (mk r, ρ)
    | none => .stuck
  | _ => .stuck
def mCB (g : List D → Option D) (ma : MA) : ME := fun ρ => (ma ρ).bind fun p => finN g p.2 p.1
theorem finN_ok {W : WX} {g : List D → Option D} {r : List V → Hp → VK → Prop} {p : List R} {xs : List V} {Q : VK} {Hs : Hp} (hd : CallD K mg r g) (rel : Rel K mg B Z H ρ σ) (hs : ∀ a, Hs a ≠ none → H a ≠ none) (dx : PDens K mg Z H σ xs p)
    (h : Fin K mg W (fun Z' H' ρ' v r => RDen K mg Hs Z' H' ρ' σ v r) B Z H ρ σ (finN g ρ p) Q) : r xs H Q := by
  unfold finN at h
  cases e1 : peeks ρ p with
  | none => rw [e1] at h; exact h.elim
  | some d =>
    rw [e1] at h
    simp only at h
    cases e3 : g d with
    | none => rw [e3] at h; exact h.elim
    | some r =>
      rw [e3] at h
      exact hd Z H xs d r Q rel.dom (dx.pks rel e1) e3 fun w H' n => fin_new rel hs h n
theorem tCB_ok {W : WX} {g : List D → Option D} {r : List V → Hp → VK → Prop} {ma : MA} (hd : CallD K mg r g) {σ : L2.St} {H : Hp} {Q : VK} (h : tD K mg W (mCB g ma) σ H Q) : tCB r (tA K mg W ma) σ H Q := by
  obtain ⟨B, Z, ρ, rel, h⟩ := h
  refine opds rel h fun x Z1 H1 p ρ1 rel1 s1 dx h1 => ?_
  exact finN_ok hd rel1 s1.p dx h1
theorem de_callB {X : Cx} {W : WX} {id : String} {x : Str} {e : Expr} {es : List Expr} {p pos : Pos} {r : List V → Hp → VK → Prop} {g : List D → Option D} {ma : MA} (hc : CallR X (.builtin id) r) (hd : CallD X.K X.mg r g) (hg : Gl X x) (hm : X.mg x = none) (hv : bootBuiltins x = some (.builtin id)) (ha : DA X W (e :: es) ma)
    (hn : x ≠ "__name__" := by decide) (hdb : (x == ("__debug__" : Str)) = false := by decide)
    (he : starEach (e :: es) X.env = (false, eval e X.env) :: starEach es X.env := by rfl) (hpl : (backTo pos (starEach es X.env)).any (·.1) = false := by rfl) : DE X W (.Call (.Name x p) (e :: es) [] pos) (mCB g ma) :=
  PE.imp (pe_callB hc hg hm hv ha hn hdb he hpl) fun _ _ _ h => tCB_ok hd h
theorem de_callTy {X : Cx} {W : WX} {id : String} {x : Str} {e : Expr} {es : List Expr} {p pos : Pos} {r : List V → Hp → VK → Prop} {g : List D → Option D} {ma : MA} (hc : CallR X (.type id) r) (hd : CallD X.K X.mg r g) (hg : Gl X x) (hm : X.mg x = none) (hv : bootBuiltins x = some (.type id)) (ha : DA X W (e :: es) ma)
    (hn : x ≠ "__name__" := by decide) (hdb : (x == ("__debug__" : Str)) = false := by decide)
    (he : starEach (e :: es) X.env = (false, eval e X.env) :: starEach es X.env := by rfl) (hpl : (backTo pos (starEach es X.env)).any (·.1) = false := by rfl) : DE X W (.Call (.Name x p) (e :: es) [] pos) (mCB g ma) :=
  PE.imp (pe_callTy hc hg hm hv ha hn hdb he hpl) fun _ _ _ h => tCB_ok hd h
end
end DL
end
section
namespace DL
open PySem PySem.Spec PyProof.Rows L2
section
variable {K : PySem.W.Frag} {mg : Str → Option Value} {Z Z' Z1 Z2 : Addr → Prop} {H H' H1 H2 H3 : Hp} {O O' O1 O2 : Addr → Prop} {ρ ρ' ρ1 ρ2 : Env} {σ σ' : L2.St} {B : Addr}

theorem RDen.pk {v : V} {r : R} {d : D} {Hs : Hp} (rel : Rel K mg B Z H ρ σ) (h : RDen K mg Hs Z H ρ σ v r) (e : peek ρ r = some d) : Pk K mg Z H v d := by
  cases r with
  | fz x => cases e; exact .inl h
  | ow x =>
    cases e
    obtain ⟨a, ev, _, _, _, _, c⟩ := h
    exact .inr ⟨a, ev, c⟩
  | sl i => exact PDen.pk (r := .sl i) rel h e

/-! ### tests -/
def truD : D → Option Bool
  | .non => some false
  | .bl b => some b
  | .int i => some (i != 0)
  | .str x => if x.length ≤ 1000000 then some ((x.length : Int) != 0) else none
  | .tup l => some (!l.isEmpty)
  | .lst l => some (!l.isEmpty)
  | _ => none
theorem DenAll.isEmpty {vs : List V} {ds : List D} (h : DenAll K mg Z H vs ds) : vs.isEmpty = ds.isEmpty := by cases h <;> rfl
theorem truV_of {v : V} {d : D} {k : Bool} (h : Pk K mg Z H v d) (e : truD d = some k) : TruV K v H k := by
  cases d with
  | non => cases h.non; cases e; rfl
  | bl b => cases h.bl; cases e; rfl
  | int i => cases h.int; cases e; rfl
  | str x =>
    cases h.str
    have e : (if x.length ≤ 1000000 then some ((x.length : Int) != 0) else none) = some k := e
    split at e
    · rename_i hx
      cases e
      exact ⟨by rw [sizeLine_eq]; omega, rfl⟩
    · cases e
  | tup l =>
    obtain ⟨a, xs, rfl, hs, t⟩ := h.tup
    cases e
    exact .inr (.inl ⟨xs, hs, by rw [t.isEmpty]⟩)
  | lst l =>
    obtain ⟨a, xs, rfl, hs, t⟩ := h.lst
    cases e
    exact .inl ⟨xs, .inl (.inl hs), by rw [t.isEmpty]⟩
  | dct l => cases e
  | fn x => cases e
  | rep x => cases e
  | scr x => cases e
  | ty x => cases e
def mTestB (m : ME) : MT := fun ρ => (m ρ).bind fun p => match peek p.2 p.1 with
  | some (.bl b) => .ok (b, p.2)
  | _ => .stuck
def mTest (m : ME) : MT := fun ρ => (m ρ).bind fun p => match peek p.2 p.1 with
  | some d => match truD d with
    | some b => .ok (b, p.2)
    | none => .stuck
  | none => .stuck
theorem testB_ok {W : WX} {m : ME} {Q : Bool → Hp → Prop} (h : tT K mg W (mTestB m) σ H Q) : tD K mg W m σ H (fun x H' => ∃ k, x = .bl k ∧ Q k H') := by
  obtain ⟨B, Z, ρ, rel, h⟩ := h
  refine ⟨B, Z, ρ, rel, ?_⟩
  unfold mTestB at h
  cases e : m ρ with
  | stuck => rw [e] at h; exact h
  | exc x => rw [e] at h; exact h
  | ok p =>
    obtain ⟨r, ρ1⟩ := p
    rw [e] at h
    simp only [Res.bind] at h
    intro v Z1 H1 rel1 st d
    cases e1 : peek ρ1 r with
    | none => rw [e1] at h; exact h.elim
    | some y =>
      rw [e1] at h
      cases y with
      | bl b => exact ⟨b, (d.pk rel1 e1).bl, h b Z1 H1 rel1 st rfl⟩
      | _ => exact h.elim
theorem test_ok {W : WX} {m : ME} {Q : Bool → Hp → Prop} (h : tT K mg W (mTest m) σ H Q) : tD K mg W m σ H (fun x H' => ∃ k, TruV K x H' k ∧ Q k H') := by
  obtain ⟨B, Z, ρ, rel, h⟩ := h
  refine ⟨B, Z, ρ, rel, ?_⟩
  unfold mTest at h
  cases e : m ρ with
  | stuck => rw [e] at h; exact h
  | exc x => rw [e] at h; exact h
  | ok p =>
    obtain ⟨r, ρ1⟩ := p
    rw [e] at h
    simp only [Res.bind] at h
    intro v Z1 H1 rel1 st d
    cases e1 : peek ρ1 r with
    | none => rw [e1] at h; exact h.elim
    | some y =>
      rw [e1] at h
      cases e2 : truD y with
      | none => simp only [e2] at h; exact h.elim
      | some b =>
        simp only [e2] at h
        exact ⟨b, truV_of (d.pk rel1 e1) e2, h b Z1 H1 rel1 st rfl⟩
theorem dt_truth {X : Cx} {W : WX} {a : Expr} {m : ME} (ha : DE X W a m) (he : ∀ whole, isTrue a X.env whole = (do let v ← whole; standAt a.pos; holding [v] (truthy v)) := by intro _; rfl) : DT X W a (mTest m) :=
  PT.imp (pt_truth ha he) fun _ _ _ h => test_ok h
theorem dt_cmp {X : Cx} {W : WX} {op : CmpOp} {a b : Expr} {pos : Pos} {r2 : R2} {g : D → D → Option D} {ma mb : ME} (ho : OpR X (compareOp op) r2) (hd : OpD X.K X.mg r2 g) (ha : DE X W a ma) (hb : DE X W b mb) (hm : behindInMarks op b = false) : DT X W (.Compare a [op] [b] pos) (mTestB (mOp g ma mb)) :=
  PT.imp (pt_cmpR ho ha hb hm) fun _ _ _ h => tOp_ok hd (testB_ok h)

/-- a test as an operand -/
theorem topd {W : WX} {ma : MT} {α β : Type} {Dn : (Addr → Prop) → Hp → Env → β → α → Prop} {f : Bool × Env → Res (α × Env)} {Q : β → Hp → Prop} {Q1 : Bool → Hp → Prop} (rel : Rel K mg B Z H ρ σ) (h : Fin K mg W Dn B Z H ρ σ ((ma ρ).bind f) Q)
    (hq : ∀ v Z1 H1 ρ1, Rel K mg B Z1 H1 ρ1 σ → Step Z H (Od ρ σ) Z1 H1 (Od ρ1 σ) → Fin K mg W Dn B Z1 H1 ρ1 σ (f (v, ρ1)) Q → Q1 v H1) : tT K mg W ma σ H Q1 := by
  refine ⟨B, Z, ρ, rel, ?_⟩
  cases e : ma ρ with
  | stuck => rw [e] at h; exact h
  | exc x => rw [e] at h; exact h
  | ok p =>
    obtain ⟨r, ρ1⟩ := p
    rw [e] at h
    intro v Z1 H1 rel1 st d
    subst d
    have h' : Fin K mg W Dn B Z H ρ σ (f (v, ρ1)) Q := h
    exact hq v Z1 H1 ρ1 rel1 st (h'.move (fun _ _ _ _ _ q => q) st)
def mAndT (ma mb : MT) : MT := fun ρ => (ma ρ).bind fun p => if p.1 = true then mb p.2 else .ok (false, p.2)
def mOrT (ma mb : MT) : MT := fun ρ => (ma ρ).bind fun p => if p.1 = true then .ok (true, p.2) else mb p.2
def mNotT (ma : MT) : MT := fun ρ => (ma ρ).bind fun p => .ok (!p.1, p.2)
theorem dw_and1 {X : Cx} {W : WX} {a : Expr} {m : MT} {pos : Pos} (ha : DT X W a m) : DW X W (.BoolOp .And [a] pos) m := pw_and1 ha
theorem dw_or1 {X : Cx} {W : WX} {a : Expr} {m : MT} {pos : Pos} (ha : DT X W a m) : DW X W (.BoolOp .Or [a] pos) m := pw_or1 ha
theorem dw_and {X : Cx} {W : WX} {a b : Expr} {rest : List Expr} {ma mb : MT} {pos : Pos} (ha : DT X W a ma) (hb : DW X W (.BoolOp .And (b :: rest) pos) mb) : DW X W (.BoolOp .And (a :: b :: rest) pos) (mAndT ma mb) :=
  PW.imp (pw_and ha hb) fun σ H Q ⟨B, Z, ρ, rel, h⟩ => topd rel h fun v Z1 H1 ρ1 rel1 s1 h1 => by
    cases v with
    | true => exact ⟨B, Z1, ρ1, rel1, h1⟩
    | false => exact h1 false Z1 H1 rel1 .refl rfl
theorem dw_or {X : Cx} {W : WX} {a b : Expr} {rest : List Expr} {ma mb : MT} {pos : Pos} (ha : DT X W a ma) (hb : DW X W (.BoolOp .Or (b :: rest) pos) mb) : DW X W (.BoolOp .Or (a :: b :: rest) pos) (mOrT ma mb) :=
  PW.imp (pw_or ha hb) fun σ H Q ⟨B, Z, ρ, rel, h⟩ => topd rel h fun v Z1 H1 ρ1 rel1 s1 h1 => by
    cases v with
    | true => exact h1 true Z1 H1 rel1 .refl rfl
    | false => exact ⟨B, Z1, ρ1, rel1, h1⟩
theorem dt_w {X : Cx} {W : WX} {a : Expr} {m : MT} (h : DW X W a m) : DT X W a m := h.pt
theorem dt_not {X : Cx} {W : WX} {a : Expr} {m : MT} {pos : Pos} (ha : DT X W a m) : DT X W (.UnaryOp .Not a pos) (mNotT m) :=
  PT.imp (pt_not ha) fun σ H Q ⟨B, Z, ρ, rel, h⟩ => topd rel h fun v Z1 H1 ρ1 rel1 s1 h1 => h1 _ Z1 H1 rel1 .refl rfl

/-! ### and, or, not, if as values -/
def mAnd (ma mb : ME) : ME := fun ρ => (ma ρ).bind fun p => match peek p.2 p.1 with
  | some (.bl true) => mb p.2
  | some (.bl false) => .ok (.fz (.bl false), p.2)
  | _ => .stuck
def mOr (ma mb : ME) : ME := fun ρ => (ma ρ).bind fun p => match peek p.2 p.1 with
  | some (.bl true) => .ok (.fz (.bl true), p.2)
  | some (.bl false) => mb p.2
  | _ => .stuck
def mNot (ma : ME) : ME := fun ρ => (ma ρ).bind fun p => match peek p.2 p.1 with
  | some (.bl b) => .ok (.fz (.bl (!b)), p.2)
  | _ => .stuck
def mIf (mt : MT) (ma mb : ME) : ME := fun ρ => (mt ρ).bind fun p => if p.1 = true then ma p.2 else mb p.2
theorem de_one {X : Cx} {W : WX} {op} {a : Expr} {m : ME} {pos : Pos} (h : DE X W a m) : DE X W (.BoolOp op [a] pos) m := pe_one h
theorem de_and {X : Cx} {W : WX} {a b : Expr} {rest : List Expr} {ma mb : ME} {pos : Pos} (ha : DE X W a ma) (hb : DE X W (.BoolOp .And (b :: rest) pos) mb) : DE X W (.BoolOp .And (a :: b :: rest) pos) (mAnd ma mb) :=
  PE.imp (pe_and ha hb) fun σ H Q ⟨B, Z, ρ, rel, h⟩ => opd rel h fun v Z1 H1 r ρ1 rel1 s1 d h1 => by
    simp only at h1
    cases e : peek ρ1 r with
    | none => rw [e] at h1; exact h1.elim
    | some y =>
      rw [e] at h1
      cases y with
      | bl b =>
        refine ⟨b, (d.pk rel1 e).bl, ?_⟩
        cases b with
        | true => exact ⟨B, Z1, ρ1, rel1, h1.move (fun _ _ _ _ _ q => q.from fun a => s1.p a) .refl⟩
        | false => exact h1 (.bl false) Z1 H1 rel1 .refl (.bl false)
      | _ => exact h1.elim
theorem de_or {X : Cx} {W : WX} {a b : Expr} {rest : List Expr} {ma mb : ME} {pos : Pos} (ha : DE X W a ma) (hb : DE X W (.BoolOp .Or (b :: rest) pos) mb) : DE X W (.BoolOp .Or (a :: b :: rest) pos) (mOr ma mb) :=
  PE.imp (pe_or ha hb) fun σ H Q ⟨B, Z, ρ, rel, h⟩ => opd rel h fun v Z1 H1 r ρ1 rel1 s1 d h1 => by
    simp only at h1
    cases e : peek ρ1 r with
    | none => rw [e] at h1; exact h1.elim
    | some y =>
      rw [e] at h1
      cases y with
      | bl b =>
        refine ⟨b, (d.pk rel1 e).bl, ?_⟩
        cases b with
        | false => exact ⟨B, Z1, ρ1, rel1, h1.move (fun _ _ _ _ _ q => q.from fun a => s1.p a) .refl⟩
        | true => exact h1 (.bl true) Z1 H1 rel1 .refl (.bl true)
      | _ => exact h1.elim
theorem de_not {X : Cx} {W : WX} {a : Expr} {m : ME} {pos : Pos} (ha : DE X W a m) : DE X W (.UnaryOp .Not a pos) (mNot m) :=
  PE.imp (pe_not ha) fun σ H Q ⟨B, Z, ρ, rel, h⟩ => opd rel h fun v Z1 H1 r ρ1 rel1 s1 d h1 => by
    simp only at h1
    cases e : peek ρ1 r with
    | none => rw [e] at h1; exact h1.elim
    | some y =>
      rw [e] at h1
      cases y with
      | bl b => exact ⟨b, (d.pk rel1 e).bl, h1 (.bl (!b)) Z1 H1 rel1 .refl (.bl (!b))⟩
      | _ => exact h1.elim
theorem de_if {X : Cx} {W : WX} {c a b : Expr} {mt : MT} {ma mb : ME} {pos : Pos} (hc : DT X W c mt) (ha : DE X W a ma) (hb : DE X W b mb) : DE X W (.IfExp c a b pos) (mIf mt ma mb) :=
  PE.imp (pe_ifExp hc ha hb) fun σ H Q ⟨B, Z, ρ, rel, h⟩ => topd rel h fun v Z1 H1 ρ1 rel1 s1 h1 => by
    cases v with
    | true => exact ⟨B, Z1, ρ1, rel1, h1.move (fun _ _ _ _ _ q => q.from fun a => s1.p a) .refl⟩
    | false => exact ⟨B, Z1, ρ1, rel1, h1.move (fun _ _ _ _ _ q => q.from fun a => s1.p a) .refl⟩

/-! ### one operand -/
abbrev UnD (K : PySem.W.Frag) (mg : Str → Option Value) (r : V → Hp → VK → Prop) (g : D → Option D) : Prop :=
  ∀ (Z : Addr → Prop) (H : Hp) (x : V) (d rr : D) (Q : VK), (∀ a, Z a → H a ≠ none) → Pk K mg Z H x d → g d = some rr → (∀ w H', NewV K mg Z H H' w rr → Q w H') → r x H Q
def fin1 (g : D → Option D) (ρ : Env) (p : R) : Res (R × Env) := match peek ρ p with
  | some d => match g d with
    | some r => .ok (mk r, ρ)
    | none => .stuck
  | _ => .stuck
def mUn (g : D → Option D) (ma : ME) : ME := fun ρ => (ma ρ).bind fun p => fin1 g p.2 p.1
theorem fin1_ok {W : WX} {g : D → Option D} {r1 : V → Hp → VK → Prop} {p : R} {x : V} {Q : VK} {Hs : Hp} (hd : UnD K mg r1 g) (rel : Rel K mg B Z H ρ σ) (hs : ∀ a, Hs a ≠ none → H a ≠ none) (dx : PDen K mg Z H σ x p)
    (h : Fin K mg W (fun Z' H' ρ' v r => RDen K mg Hs Z' H' ρ' σ v r) B Z H ρ σ (fin1 g ρ p) Q) : r1 x H Q := by
  unfold fin1 at h
  cases e1 : peek ρ p with
  | none => rw [e1] at h; exact h.elim
  | some d =>
    rw [e1] at h
    simp only at h
    cases e3 : g d with
    | none => rw [e3] at h; exact h.elim
    | some r =>
      rw [e3] at h
      exact hd Z H x d r Q rel.dom (dx.pk rel e1) e3 fun w H' n => fin_new rel hs h n
theorem tUn_ok {W : WX} {g : D → Option D} {r1 : V → Hp → VK → Prop} {ma : ME} (hd : UnD K mg r1 g) {σ : L2.St} {H : Hp} {Q : VK} (h : tD K mg W (mUn g ma) σ H Q) : tUn r1 (tD K mg W ma) σ H Q := by
  obtain ⟨B, Z, ρ, rel, h⟩ := h
  refine opd rel h fun x Z1 H1 p ρ1 rel1 s1 dx h1 => ?_
  exact fin1_ok hd rel1 s1.p dx h1
theorem de_un {X : Cx} {W : WX} {op : UnaryOp} {a : Expr} {pos : Pos} {r1 : V → Hp → VK → Prop} {g : D → Option D} {ma : ME} (ho : UnR X (unaryOp op) r1) (hd : UnD X.K X.mg r1 g) (ha : DE X W a ma) : DE X W (.UnaryOp op a pos) (mUn g ma) :=
  PE.imp (pe_un ho ha) fun _ _ _ h => tUn_ok hd h

/-! ### chains -/
def fin2B (g : D → D → Option D) (ρ : Env) (p q : R) : Option Bool := match peek ρ p, peek ρ q with
  | some d, some e => match g d e with
    | some (.bl b) => some b
    | _ => none
  | _, _ => none
def mChain (g g' : D → D → Option D) (ma mb mc : ME) : ME := fun ρ => (ma ρ).bind fun p => (mb p.2).bind fun q => match fin2B g q.2 p.1 q.1 with
  | some true => (mc q.2).bind fun t => fin2 g' t.2 q.1 t.1
  | some false => .ok (.fz (.bl false), q.2)
  | none => .stuck
/-- a pure test of two operands -/
theorem fin2B_ok {g : D → D → Option D} {r2 : R2} {p q : R} {x y : V} {Q : VK} {b : Bool} (hd : OpD K mg r2 g) (rel : Rel K mg B Z H ρ σ) (dx : PDen K mg Z H σ x p) (dy : PDen K mg Z H σ y q) (h : fin2B g ρ p q = some b)
    (hq : ∀ H', Rel K mg B Z H' ρ σ → Step Z H (Od ρ σ) Z H' (Od ρ σ) → Q (.bl b) H') : r2 x y H Q := by
  unfold fin2B at h
  cases e1 : peek ρ p with
  | none => simp only [e1] at h; cases h
  | some d =>
    cases e2 : peek ρ q with
    | none => simp only [e1, e2] at h; cases h
    | some e =>
      simp only [e1, e2] at h
      cases e3 : g d e with
      | none => rw [e3] at h; cases h
      | some r =>
        rw [e3] at h
        cases r with
        | bl c =>
          cases h
          refine hd Z H x y d e _ Q rel.dom (dx.pk rel e1) (dy.pk rel e2) e3 fun w H' n => ?_
          obtain ⟨r1, s1⟩ := rel_new rel n.1
          have ew : w = .bl b := (Pk.bl (.inl n.2))
          subst ew
          exact hq H' r1 s1
        | _ => cases h
theorem tChain_ok {W : WX} {g g' : D → D → Option D} {r2 r2' : R2} {ma mb mc : ME} (hd : OpD K mg r2 g) (hd' : OpD K mg r2' g') {σ : L2.St} {H : Hp} {Q : VK} (h : tD K mg W (mChain g g' ma mb mc) σ H Q) :
    tChain r2 r2' (tD K mg W ma) (tD K mg W mb) (tD K mg W mc) σ H Q := by
  obtain ⟨B, Z, ρ, rel, h⟩ := h
  refine opd rel h fun x Z1 H1 p ρ1 rel1 s1 dx h1 => ?_
  refine opd rel1 h1 fun y Z2 H2 q ρ2 rel2 s2 dy h2 => ?_
  simp only at h2
  cases e : fin2B g ρ2 p q with
  | none => rw [e] at h2; exact h2.elim
  | some b =>
    rw [e] at h2
    refine fin2B_ok hd rel2 (dx.step rel1 s2) dy e fun H3 rel3 s3 => ⟨b, rfl, ?_⟩
    cases b with
    | false => exact h2 (.bl false) Z2 H3 rel3 s3 (.bl false)
    | true =>
      have h3 := h2.move (fun _ _ _ _ _ q => q) s3
      refine opd rel3 h3 fun z Z4 H4 t ρ4 rel4 s4 dz h4 => ?_
      exact fin2_ok hd' rel4 (((s1.trans s2).trans s3).trans s4).p ((dy.step rel2 s3).step rel3 s4) dz h4
theorem de_chain {X : Cx} {W : WX} {op op' : CmpOp} {a b c : Expr} {pos : Pos} {r2 r2' : R2} {g g' : D → D → Option D} {ma mb mc : ME} (ho : OpR X (compareOp op) r2) (ho' : OpR X (compareOp op') r2') (hd : OpD X.K X.mg r2 g) (hd' : OpD X.K X.mg r2' g')
    (ha : DE X W a ma) (hb : DE X W b mb) (hc : DE X W c mc) (hm : lastMarks [op, op'] [b, c] = false := by with_unfolding_all rfl) : DE X W (.Compare a [op, op'] [b, c] pos) (mChain g g' ma mb mc) :=
  PE.imp (pe_chain ho ho' ha hb hc hm) fun _ _ _ h => tChain_ok hd hd' h
theorem dt_chain {X : Cx} {W : WX} {op op' : CmpOp} {a b c : Expr} {pos : Pos} {r2 r2' : R2} {g g' : D → D → Option D} {ma mb mc : ME} (ho : OpR X (compareOp op) r2) (ho' : OpR X (compareOp op') r2') (hd : OpD X.K X.mg r2 g) (hd' : OpD X.K X.mg r2' g')
    (ha : DE X W a ma) (hb : DE X W b mb) (hc : DE X W c mc) (hm : lastMarks [op, op'] [b, c] = false := by with_unfolding_all rfl) : DT X W (.Compare a [op, op'] [b, c] pos) (mTestB (mChain g g' ma mb mc)) :=
  PT.imp (pt_chain ho ho' ha hb hc hm) fun _ _ _ h => tChain_ok hd hd' (testB_ok h)

/-! ### what is put into a thing or handed to a def is changed by no one any more -/
def frz1 : R → Env → Option (D × Env)
  | .fz d, ρ => some (d, ρ)
  | .ow d, ρ => some (d, ρ)
  | .sl i, ρ => match ρ[i]? with
    | some (.fz d) => some (d, ρ)
    | some (.ow false d) => some (d, ρ.set i (.fz d))
    | _ => none
def frzs : List R → Env → Option (List D × Env)
  | [], ρ => some ([], ρ)
  | r :: rs, ρ => match frz1 r ρ with
    | some (d, ρ1) => match frzs rs ρ1 with
      | some (ds, ρ2) => some (d :: ds, ρ2)
      | none => none
    | none => none
theorem Od.set_fz {i : Nat} {d : D} {a : Addr} (h : Od (ρ.set i (.fz d)) σ a) : Od ρ σ a := by
  obtain ⟨j, b, e, h1, h2⟩ := h
  by_cases hj : i = j
  · subst hj
    by_cases hl : i < ρ.length
    · rw [List.getElem?_set_self hl] at h1; cases h1
    · rw [List.getElem?_eq_none (by simpa using hl)] at h1; cases h1
  · rw [List.getElem?_set_ne hj] at h1
    exact ⟨j, b, e, h1, h2⟩
theorem frz1_ok {v : V} {r : R} {d : D} (rel : Rel K mg B Z H ρ σ) (h : PDen K mg Z H σ v r) (e : frz1 r ρ = some (d, ρ')) : ∃ Z', Rel K mg B Z' H ρ' σ ∧ Step Z H (Od ρ σ) Z' H (Od ρ' σ) ∧ Den K mg Z' H v d := by
  cases r with
  | fz x => cases e; exact ⟨Z, rel, .refl, h⟩
  | ow x => cases e; exact ⟨Z, rel, .refl, h⟩
  | sl i =>
    have h : σ[i]? = some (some v) := h
    unfold frz1 at e
    cases q : ρ[i]? with
    | none => simp only [q] at e; cases e
    | some s =>
      simp only [q] at e
      cases s with
      | un => cases e
      | fz x =>
        cases e
        obtain ⟨u, e', hu⟩ := rel.fz i _ q
        rw [h] at e'; cases e'
        exact ⟨Z, rel, .refl, hu⟩
      | ow b x =>
        cases b with
        | true => cases e
        | false =>
          cases e
          obtain ⟨a, e', nz, m, c, _⟩ := rel.ow i _ _ q
          rw [h] at e'; cases e'
          have hi : i < ρ.length := (List.getElem?_eq_some_iff.mp q).1
          have hz : ∀ b, Z b → Z b ∨ b = a := fun _ z => .inl z
          refine ⟨fun b => Z b ∨ b = a, ⟨by rw [List.length_set]; exact rel.len, fun b z => z.elim (rel.dom b) fun z => by rw [z]; exact mut_some m, fun j y e => ?_, fun j b y e => ?_, fun j k b c y y' a' e1 e2 => ?_⟩, ⟨fun _ _ e _ _ => e, Kept.all fun _ _ e => e, hz, fun b z => z.elim .inl fun z => .inr (.inr ⟨i, false, _, q, by rw [z]; exact h⟩), fun b z => .inr z.set_fz, fun _ z => z, fun b z => z.elim .inl fun z => .inr (by rw [z]; exact mut_some m)⟩, .mut (.inr rfl) (c.zmono hz)⟩
          · by_cases hj : i = j
            · subst hj
              rw [List.getElem?_set_self hi] at e; cases e
              exact ⟨_, h, .mut (.inr rfl) (c.zmono hz)⟩
            · rw [List.getElem?_set_ne hj] at e
              obtain ⟨u, e', hu⟩ := rel.fz j y e
              exact ⟨u, e', hu.zmono hz⟩
          · by_cases hj : i = j
            · subst hj
              rw [List.getElem?_set_self hi] at e; cases e
            · rw [List.getElem?_set_ne hj] at e
              obtain ⟨a', e', nz', m', c', hb'⟩ := rel.ow j b y e
              refine ⟨a', e', fun z => z.elim nz' fun z => hj ?_, m', c'.zmono hz, hb'⟩
              subst z
              exact rel.inj i j _ _ _ _ _ q e h e'
          · have l : ∀ {j b y}, (ρ.set i (.fz d))[j]? = some (Sl.ow b y) → ρ[j]? = some (Sl.ow b y) := fun {j b y} e => by
              by_cases hj : i = j
              · subst hj
                rw [List.getElem?_set_self hi] at e; cases e
              · rwa [List.getElem?_set_ne hj] at e
            exact rel.inj j k b c y y' a' (l e1) (l e2)
theorem frzs_ok {B : Addr} : ∀ {rs : List R} {vs : List V} {ds : List D} {Z : Addr → Prop} {ρ : Env}, Rel K mg B Z H ρ σ → PDens K mg Z H σ vs rs → frzs rs ρ = some (ds, ρ') → ∃ Z', Rel K mg B Z' H ρ' σ ∧ Step Z H (Od ρ σ) Z' H (Od ρ' σ) ∧ DenAll K mg Z' H vs ds
  | [], _, ds, Z, ρ, rel, .nil, e => by cases e; exact ⟨Z, rel, .refl, .nil⟩
  | r :: rs, _, ds, Z, ρ, rel, .cons h t, e => by
    unfold frzs at e
    cases e1 : frz1 r ρ with
    | none => rw [e1] at e; cases e
    | some p =>
      obtain ⟨d, ρ1⟩ := p
      rw [e1] at e
      simp only at e
      cases e2 : frzs rs ρ1 with
      | none => rw [e2] at e; cases e
      | some p =>
        obtain ⟨ds', ρ2⟩ := p
        rw [e2] at e
        cases e
        obtain ⟨Z1, rel1, s1, d1⟩ := frz1_ok rel h e1
        obtain ⟨Z2, rel2, s2, d2⟩ := frzs_ok (rs := rs) rel1 (t.step rel s1) e2
        exact ⟨Z2, rel2, s1.trans s2, .cons (rel1.den s2 d1) d2⟩

/-! ### tuples, lists written -/
def mTup (ma : MA) : ME := fun ρ => (ma ρ).bind fun p => match frzs p.1 p.2 with
  | some (ds, ρ') => if ds.length ≤ 1000 then .ok (.fz (.tup ds), ρ') else .stuck
  | none => .stuck
def mLst (ma : MA) : ME := fun ρ => (ma ρ).bind fun p => match frzs p.1 p.2 with
  | some (ds, ρ') => if ds.length ≤ 1000 then .ok (.ow (.lst ds), ρ') else .stuck
  | none => .stuck
theorem upd_keeps {p : Addr} {o : HO} (h : H p = none) : ∀ a x, H a = some x → upd H p o a = some x := fun a x e => by
  rw [upd_ne (ne_of_none e h)]; exact e
theorem newTup {p : Addr} {xs : List V} {ds : List D} (h : H p = none) (t : DenAll K mg Z H xs ds) : NewV K mg Z H (upd H p (.tup xs)) (.ref p) (.tup ds) :=
  ⟨upd_keeps h, .tup upd_same (t.grown (upd_keeps h))⟩
theorem newLst {p : Addr} {xs : List V} {ds : List D} (h : H p = none) (t : DenAll K mg Z H xs ds) : NewV K mg Z H (upd H p (.lst xs)) (.ref p) (.lst ds) :=
  ⟨upd_keeps h, p, rfl, h, by rw [upd_same]; exact True.intro, .lst upd_same (t.grown (upd_keeps h))⟩
theorem de_tup {X : Cx} {W : WX} {es : List Expr} {x1} {pos : Pos} {ma : MA} (ha : DA X W es ma) : DE X W (.Tuple es x1 pos) (mTup ma) :=
  PE.imp (pe_tup ha) fun σ H Q ⟨B, Z, ρ, rel, h⟩ => opds rel h fun xs Z1 H1 rs ρ1 rel1 s1 dxs h1 => by
    simp only at h1
    cases e : frzs rs ρ1 with
    | none => rw [e] at h1; exact h1.elim
    | some p =>
      obtain ⟨ds, ρ2⟩ := p
      rw [e] at h1
      simp only at h1
      obtain ⟨Z2, rel2, s2, t⟩ := frzs_ok rel1 dxs e
      split at h1
      · rename_i hl
        refine ⟨by rw [t.length, sizeLine_eq]; omega, fun p hp => ?_⟩
        have h2 := h1.move (fun _ _ _ _ _ q => q) s2
        exact fin_new (r := .tup ds) rel2 (s1.trans s2).p h2 (newTup hp t)
      · exact h1.elim
theorem de_lst {X : Cx} {W : WX} {es : List Expr} {pos : Pos} {ma : MA} (ha : DA X W es ma) : DE X W (.List es pos) (mLst ma) :=
  PE.imp (pe_lst ha) fun σ H Q ⟨B, Z, ρ, rel, h⟩ => opds rel h fun xs Z1 H1 rs ρ1 rel1 s1 dxs h1 => by
    simp only at h1
    cases e : frzs rs ρ1 with
    | none => rw [e] at h1; exact h1.elim
    | some p =>
      obtain ⟨ds, ρ2⟩ := p
      rw [e] at h1
      simp only at h1
      obtain ⟨Z2, rel2, s2, t⟩ := frzs_ok rel1 dxs e
      split at h1
      · rename_i hl
        refine ⟨by rw [t.length, sizeLine_eq]; omega, fun p hp => ?_⟩
        have h2 := h1.move (fun _ _ _ _ _ q => q) s2
        exact fin_new (r := .lst ds) rel2 (s1.trans s2).p h2 (newLst hp t)
      · exact h1.elim

/-! ### calls of defs -/
inductive RF where
  | fz (d : D) | ow (d : D)
def RF.r : RF → R
  | .fz d => .fz d
  | .ow d => .ow d
def RFDen (K : PySem.W.Frag) (mg : Str → Option Value) (H : Hp) (Z' : Addr → Prop) (H' : Hp) (v : V) : RF → Prop
  | .fz d => Den K mg Z' H' v d
  | .ow d => ∃ a, v = .ref a ∧ H a = none ∧ ¬ Z' a ∧ Mut (H' a) ∧ Cont K mg Z' H' a d
abbrev O0 : Addr → Prop := fun _ => False
def spD (K : PySem.W.Frag) (mg : Str → Option Value) (n : Nat) (f : List D → Res RF) : Sp := fun vs H Q E => ∃ (Z : Addr → Prop) (ds : List D), (∀ a, Z a → H a ≠ none) ∧ DenAll K mg Z H vs ds ∧ vs.length = n ∧
  match f ds with
  | .ok r => ∀ v Z' H', Step Z H O0 Z' H' O0 → RFDen K mg H Z' H' v r → Q v H'
  | .exc x => ∀ cls dx Z' H', Step Z H O0 Z' H' O0 → XDen K mg Z' H' x cls dx → E cls dx H'
  | .stuck => False
/-- the caller's things stand behind a call -/
theorem rel_call (rel : Rel K mg B Z H ρ σ) (s : Step Z H O0 Z' H' O') (ho : ∀ a, O' a → False) : Rel K mg B Z' H' ρ σ ∧ Step Z H (Od ρ σ) Z' H' (Od ρ σ) := by
  have far : ∀ a, Mut (H a) → ¬ Z a → ¬ Z' a := fun a m nz z => by
    rcases s.n a z with q | q | q
    · exact nz q
    · exact mut_some m q
    · exact q
  refine ⟨⟨rel.len, fun a z => ?_, fun i d e => ?_, fun i b d e => ?_, rel.inj⟩, ⟨fun a o e n nz => s.k1 a o e (fun z => z) nz, fun a u r _ => s.k2 a u r fun z => z, s.z, fun a z => (s.n a z).elim .inl fun q => q.elim (fun q => .inr (.inl q)) fun q => q.elim, fun a z => .inr z, s.p, s.d⟩⟩
  · exact (s.d a z).elim (fun q => s.p a (rel.dom a q)) fun q => q
  · obtain ⟨v, e', h⟩ := rel.fz i d e
    exact ⟨v, e', h.step s.k2 s.z fun _ z => z.elim⟩
  · obtain ⟨a, e', nz, m, c, hb⟩ := rel.ow i b d e
    have nz' := far a m nz
    refine ⟨a, e', nz', ?_, c.step s.k2 s.z (fun _ z => z.elim) (fun z => z), hb⟩
    cases q : H a with
    | none => exact absurd q (mut_some m)
    | some o => rw [s.k1 a o q (fun z => z) nz', ← q]; exact m
end
end DL
end
section
namespace DL
open PySem PySem.Spec PyProof.Rows L2
section
variable {K : PySem.W.Frag} {mg : Str → Option Value} {Z Z' Z1 Z2 : Addr → Prop} {H H' H1 H2 H3 : Hp} {O O' O1 O2 : Addr → Prop} {ρ ρ' ρ1 ρ2 : Env} {σ σ' σ1 σ2 : L2.St} {B : Addr}

/-! ### defs, under no guard -/
/-- as FnOk, run where no guard stands around -/
structure FnG (P : Program) (w : World) (K : PySem.W.Frag) (mg : Str → Option Value) (base : Heap) (k : Nat) (f : Addr) (fd : FuncData) (ps : List Str) (sp : Sp) : Prop where
  len : ∀ vs H Q E, sp vs H Q E → vs.length = ps.length
  run : ∀ (A : Around) (outer : List PySem.Env) (s : Shared) (H : Hp) (args : Args) (us : List Value) (vs : List V) (Q : VK) (E : XK), Room k A → A.guards = some [] → Env0 P w K mg base A outer s H → BindsTo s fd args (ps.zip us) → Vals vs us →
    sp vs H Q E → codeAny (model P w) A (.call (.ref f) args) (CR (L2.CX P w) outer P w H s Q E) s
theorem FnG.imp {P : Program} {w : World} {K : PySem.W.Frag} {mg : Str → Option Value} {base : Heap} {k : Nat} {f : Addr} {fd : FuncData} {ps : List Str} {sp sp' : Sp} (F : FnG P w K mg base k f fd ps sp) (h : ∀ vs H Q E, sp' vs H Q E → sp vs H Q E) : FnG P w K mg base k f fd ps sp' where
  len := fun vs H Q E q => F.len vs H Q E (h _ _ _ _ q)
  run := fun A o s H a us vs Q E r g e b v q => F.run A o s H a us vs Q E r g e b v (h _ _ _ _ q)
/-- the callee runs -/
theorem runG {X : Cx} {k : Nat} {f : Addr} {fd : FuncData} {ps : List Str} {sp : Sp} {E : L2.St → XK} {pins : List (Addr × Obj)} {σ : L2.St} {H : Hp} {s : Shared} {Q : VK} {us : List Value} {vs : List V} (F : FnG X.prog X.w X.K X.mg X.base k f fd ps sp) (hr : Room k X.A)
    (gd : X.A.guards = some []) (hb : Binds X.K fd ps []) (hx : PassesAt (L2.CX X.prog X.w) X σ (E σ)) (I : Inv X pins σ H s) (r : Vals vs us) (h : sp vs H Q (E σ)) : wpAny (model X.prog X.w) X.A (PySem.call (.ref f) us) (EP X pins σ Q) X.xe s := by
  have hl : us.length = ps.length := r.length ▸ F.len _ _ _ _ h
  have b := hb s us I.kIn (by rw [List.append_nil, hl])
  simp only [List.append_nil] at b
  apply wpAny_call
  refine codeAny_mono (F.run X.A X.stack s H ⟨us, []⟩ us vs Q (E σ) hr gd I.env0 b r h) ?_
  rintro (e | fl) s' hq
  · exact hx pins H s e s' I hq
  · cases fl with
    | ret u => exact I.after hq
    | _ => exact hq.elim
theorem pe_callG {X : Cx} {k : Nat} {f : Addr} {fd : FuncData} {ps : List Str} {sp : Sp} {E : L2.St → XK} {x : Str} {p pos : Pos} {e : Expr} {es : List Expr} {t : TA} (F : FnG X.prog X.w X.K X.mg X.base k f fd ps sp) (hr : Room k X.A) (gd : X.A.guards = some [])
    (hg : Gl X x) (hm : X.mg x = some (.ref f)) (hk : PySem.W.keepIn X.K (.ref f) = true) (hb : Binds X.K fd ps []) (hx : ∀ σ, PassesAt (L2.CX X.prog X.w) X σ (E σ)) (ha : PA X (e :: es) t) (hdb : (x == ("__debug__" : Str)) = false)
    (he : starEach (e :: es) X.env = (false, eval e X.env) :: starEach es X.env) (hpl : (backTo pos (starEach es X.env)).any (·.1) = false) : PE X (.Call (.Name x p) (e :: es) [] pos) (tCallS sp E t) where
  run := fun pins s σ H Q I h => wpAny_Call_Name_kw (ld_glob I hg hm (PySem.W.callWith_K (h₀ := X.base) I.ok.mod.kin hk
    (thn (ha.run pos pins s σ H _ I h) fun us s1 q => match q with
      | ⟨_, _, I1, r, q⟩ => ⟨I1.kIn, runG F hr gd hb (hx σ) I1 r q⟩) he hpl) hdb)

/-! ### calls of defs -/
def lenIs (n : Nat) (f : List D → Res RF) (ds : List D) : Res RF := if ds.length = n then f ds else .stuck
def spF (K : PySem.W.Frag) (mg : Str → Option Value) (n : Nat) (f : List D → Res RF) : Sp := fun vs H Q E => ∃ (Z : Addr → Prop) (ds : List D), (∀ a, Z a → H a ≠ none) ∧ DenAll K mg Z H vs ds ∧
  match lenIs n f ds with
  | .ok r => ∀ v Z' H', Step Z H O0 Z' H' O0 → RFDen K mg H Z' H' v r → Q v H'
  | .exc x => ∀ cls dx Z' H', Step Z H O0 Z' H' O0 → XDen K mg Z' H' x cls dx → E cls dx H'
  | .stuck => False
theorem spF_len {n : Nat} {f : List D → Res RF} {vs : List V} {Q : VK} {E : XK} (h : spF K mg n f vs H Q E) : vs.length = n := by
  obtain ⟨Z, ds, _, t, h⟩ := h
  unfold lenIs at h
  split at h
  · rename_i e
    split at e
    · rename_i q; rw [t.length]; exact q
    · cases e
  · rename_i e
    split at e
    · rename_i q; rw [t.length]; exact q
    · cases e
  · exact h.elim
def mCall (n : Nat) (f : List D → Res RF) (ma : MA) : ME := fun ρ => (ma ρ).bind fun p => match frzs p.1 p.2 with
  | some (ds, ρ') => (lenIs n f ds).bind fun r => .ok (r.r, ρ')
  | none => .stuck
theorem rfden {v : V} {r : RF} (far : ∀ a, Od ρ σ a → H a ≠ none) (h : RFDen K mg H Z' H' v r) : RDen K mg H Z' H' ρ σ v r.r := by
  cases r with
  | fz d => exact h
  | ow d =>
    obtain ⟨a, e, n, nz, m, c⟩ := h
    exact ⟨a, e, n, nz, m, fun o => far a o n, c⟩
theorem Od.set_ow {i : Nat} {b : Bool} {d d' : D} {a : Addr} (h : Od (ρ.set i (.ow b d')) σ a) (hi : ρ[i]? = some (.ow b d)) : Od ρ σ a := by
  obtain ⟨j, c, y, h1, h2⟩ := h
  by_cases hj : i = j
  · subst hj
    rw [List.getElem?_set_self (List.getElem?_eq_some_iff.mp hi).1] at h1
    cases h1
    exact ⟨i, b, d, hi, h2⟩
  · rw [List.getElem?_set_ne hj] at h1
    exact ⟨j, c, y, h1, h2⟩
theorem Rel.far (rel : Rel K mg B Z H ρ σ) : ∀ a, Od ρ σ a → H a ≠ none := fun a o => mut_some (rel.owned a o).2
theorem de_call {X : Cx} {W : WX} {x : Str} {e : Expr} {es : List Expr} {p pos : Pos} {k n : Nat} {f : Addr} {fd : FuncData} {ps : List Str} {F : List D → Res RF} {ma : MA} (tk : Takes X W)
    (G : FnG X.prog X.w X.K X.mg X.base k f fd ps (spF X.K X.mg n F)) (hr : Room k X.A) (gd : X.A.guards = some []) (hg : Gl X x) (hm : X.mg x = some (.ref f)) (hk : PySem.W.keepIn X.K (.ref f) = true) (hb : Binds X.K fd ps []) (ha : DA X W (e :: es) ma)
    (hdb : (x == ("__debug__" : Str)) = false := by decide) (he : starEach (e :: es) X.env = (false, eval e X.env) :: starEach es X.env := by rfl) (hpl : (backTo pos (starEach es X.env)).any (·.1) = false := by rfl) :
    DE X W (.Call (.Name x p) (e :: es) [] pos) (mCall n F ma) :=
  PE.imp (pe_callG G hr gd hg hm hk hb (fun σ => passAt tk σ) ha hdb he hpl) fun σ H Q ⟨B, Z, ρ, rel, h⟩ => opds rel h fun xs Z1 H1 rs ρ1 rel1 s1 dxs h1 => by
    simp only at h1
    cases e : frzs rs ρ1 with
    | none => rw [e] at h1; exact h1.elim
    | some p =>
      obtain ⟨ds, ρ2⟩ := p
      rw [e] at h1
      simp only at h1
      obtain ⟨Z2, rel2, s2, t⟩ := frzs_ok rel1 dxs e
      have h2 := h1.move (fun _ _ _ _ _ q => q) s2
      refine ⟨Z2, ds, rel2.dom, t, ?_⟩
      cases e3 : lenIs n F ds with
      | stuck => rw [e3] at h2; exact h2.elim
      | exc y =>
        rw [e3] at h2
        intro cls dx Z' H' st xd
        obtain ⟨_, st'⟩ := rel_call rel2 st fun _ z => z
        exact h2 cls dx Z' H' st' xd
      | ok r =>
        rw [e3] at h2
        intro v Z' H' st rd
        obtain ⟨rel', st'⟩ := rel_call rel2 st fun _ z => z
        exact h2 v Z' H' rel' st' ((rfden rel2.far rd).from fun a q => s2.p a (s1.p a q))

/-! ### an owned slot's thing changes -/
theorem rel_write {i : Nat} {b : Bool} {d d' : D} {a : Addr} {ob : HO} (rel : Rel K mg B Z H ρ σ) (hi : ρ[i]? = some (.ow b d)) (ha : σ[i]? = some (some (.ref a))) (mu : Mut (some ob)) (hc : Cont K mg Z (upd H a ob) a d') :
    Rel K mg B Z (upd H a ob) (ρ.set i (.ow b d')) σ ∧ Step Z H (Od ρ σ) Z (upd H a ob) (Od (ρ.set i (.ow b d')) σ) := by
  obtain ⟨a', e', nz, m, _, hb⟩ := rel.ow i b d hi
  rw [ha] at e'
  cases e'
  have oa : Od ρ σ a := ⟨i, b, d, hi, ha⟩
  have hl : i < ρ.length := (List.getElem?_eq_some_iff.mp hi).1
  have k2 : Kept H (upd H a ob) (fun c => c = a) := fun c u r n => .inl (by rw [upd_ne n]; exact r)
  have l : ∀ {j c y}, (ρ.set i (.ow b d'))[j]? = some (Sl.ow c y) → ∃ z, ρ[j]? = some (Sl.ow c z) := fun {j c y} e => by
    by_cases hj : i = j
    · subst hj
      rw [List.getElem?_set_self hl] at e; cases e
      exact ⟨d, hi⟩
    · rw [List.getElem?_set_ne hj] at e
      exact ⟨y, e⟩
  have hO : ∀ c, c = a → ¬ Z c ∧ Mut (H c) := fun c e => by subst e; exact ⟨nz, m⟩
  refine ⟨⟨by rw [List.length_set]; exact rel.len, fun c z => ?_, fun j y e => ?_, fun j c y e => ?_, fun j k c c2 y y' a' e1 e2 => ?_⟩, ⟨fun c o e n _ => ?_, fun c u r n => k2 c u r fun q => n (q ▸ oa), fun _ z => z, fun _ z => .inl z, fun c ⟨j, c2, y, e1, e2⟩ => ?_, fun c h => ?_, fun _ z => .inl z⟩⟩
  · rw [upd_ne (fun q : c = a => nz (by rw [← q]; exact z))]; exact rel.dom c z
  · have e' : ρ[j]? = some (.fz y) := by
      by_cases hj : i = j
      · subst hj
        rw [List.getElem?_set_self hl] at e; cases e
      · rwa [List.getElem?_set_ne hj] at e
    obtain ⟨v, e2, hv⟩ := rel.fz j y e'
    exact ⟨v, e2, hv.step (O := fun c => c = a) k2 (fun _ z => z) hO⟩
  · by_cases hj : i = j
    · subst hj
      rw [List.getElem?_set_self hl] at e; cases e
      exact ⟨a, ha, nz, by rw [upd_same]; exact mu, hc, hb⟩
    · rw [List.getElem?_set_ne hj] at e
      obtain ⟨a2, e2, nz2, m2, c2, hb2⟩ := rel.ow j c y e
      have ne : a2 ≠ a := fun q => hj (rel.inj i j _ _ _ _ a hi e ha (by rw [← q]; exact e2))
      exact ⟨a2, e2, nz2, by rw [upd_ne ne]; exact m2, c2.step (O := fun c => c = a) k2 (fun _ z => z) hO ne, hb2⟩
  · obtain ⟨z1, q1⟩ := l e1
    obtain ⟨z2, q2⟩ := l e2
    exact rel.inj j k _ _ _ _ a' q1 q2
  · rw [upd_ne (fun q : c = a => n (by rw [q]; exact oa))]; exact e
  · obtain ⟨z1, q1⟩ := l e1
    exact .inr ⟨j, c2, z1, q1, e2⟩
  · by_cases q : c = a
    · rw [q, upd_same]; simp
    · rw [upd_ne q]; exact h

/-- a def that changes the list that its first argument is -/
def lenIsI (n : Nat) (f : D → List D → Res (RF × D)) (d : D) (ds : List D) : Res (RF × D) := if ds.length + 1 = n then f d ds else .stuck
def spI (K : PySem.W.Frag) (mg : Str → Option Value) (n : Nat) (f : D → List D → Res (RF × D)) : Sp := fun vs H Q E => ∃ (Z : Addr → Prop) (a : Addr) (us : List V) (d : D) (ds : List D), vs = .ref a :: us ∧ (∀ a, Z a → H a ≠ none) ∧ ¬ Z a ∧ Mut (H a) ∧ Cont K mg Z H a d ∧ DenAll K mg Z H us ds ∧
  match lenIsI n f d ds with
  | .ok (r, d') => ∀ v Z' H', Step Z H (fun b => b = a) Z' H' (fun b => b = a) → ¬ Z' a → Mut (H' a) → Cont K mg Z' H' a d' → RFDen K mg H Z' H' v r → Q v H'
  | .exc x => ∀ cls dx Z' H', Step Z H (fun b => b = a) Z' H' (fun b => b = a) → XDen K mg Z' H' x cls dx → E cls dx H'
  | .stuck => False
theorem spI_len {n : Nat} {f : D → List D → Res (RF × D)} {vs : List V} {Q : VK} {E : XK} (h : spI K mg n f vs H Q E) : vs.length = n := by
  obtain ⟨Z, a, us, d, ds, e, _, _, _, _, t, h⟩ := h
  subst e
  have key : ds.length + 1 = n → (V.ref a :: us).length = n := fun q => by rw [List.length_cons, t.length]; exact q
  unfold lenIsI at h
  split at h
  · rename_i e
    split at e
    · rename_i q; exact key q
    · cases e
  · rename_i e
    split at e
    · rename_i q; exact key q
    · cases e
  · exact h.elim
def mCallI (n : Nat) (f : D → List D → Res (RF × D)) (ma : MA) : ME := fun ρ => (ma ρ).bind fun p => match p.1 with
  | .sl i :: rest => match frzs rest p.2 with
    | some (ds, ρ') => match ρ'[i]? with
      | some (.ow b d) => (lenIsI n f d ds).bind fun q => .ok (q.1.r, ρ'.set i (.ow b q.2))
      | _ => .stuck
    | none => .stuck
  | _ => .stuck
/-- behind a call that changed an owned slot's thing alone -/
theorem rel_callI {i : Nat} {b : Bool} {d d' : D} {a : Addr} (rel : Rel K mg B Z H ρ σ) (hi : ρ[i]? = some (.ow b d)) (ha : σ[i]? = some (some (.ref a))) (s : Step Z H (fun b => b = a) Z' H' O') (nz' : ¬ Z' a) (mu : Mut (H' a)) (hc : Cont K mg Z' H' a d') :
    Rel K mg B Z' H' (ρ.set i (.ow b d')) σ ∧ Step Z H (Od ρ σ) Z' H' (Od (ρ.set i (.ow b d')) σ) := by
  obtain ⟨a', e', nz, m, _, hb⟩ := rel.ow i b d hi
  rw [ha] at e'
  cases e'
  have oa : Od ρ σ a := ⟨i, b, d, hi, ha⟩
  have hl : i < ρ.length := (List.getElem?_eq_some_iff.mp hi).1
  have l : ∀ {j c y}, (ρ.set i (.ow b d'))[j]? = some (Sl.ow c y) → ∃ z, ρ[j]? = some (Sl.ow c z) := fun {j c y} e => by
    by_cases hj : i = j
    · subst hj
      rw [List.getElem?_set_self hl] at e; cases e
      exact ⟨d, hi⟩
    · rw [List.getElem?_set_ne hj] at e
      exact ⟨y, e⟩
  have hO : ∀ c, c = a → ¬ Z c ∧ Mut (H c) := fun c e => by subst e; exact ⟨nz, m⟩
  refine ⟨⟨by rw [List.length_set]; exact rel.len, fun c z => (s.d c z).elim (fun q => s.p c (rel.dom c q)) fun q => q, fun j y e => ?_, fun j c y e => ?_, fun j k c c2 y y' a' e1 e2 => ?_⟩, ⟨fun c o e n nz => s.k1 c o e (fun q => n (q ▸ oa)) nz, fun c u r n => s.k2 c u r fun q => n (q ▸ oa), s.z, fun c z => (s.n c z).elim .inl fun q => q.elim (fun q => .inr (.inl q)) fun q => .inr (.inr (q ▸ oa)), fun c ⟨j, c2, y, e1, e2⟩ => ?_, s.p, s.d⟩⟩
  · have e' : ρ[j]? = some (.fz y) := by
      by_cases hj : i = j
      · subst hj
        rw [List.getElem?_set_self hl] at e; cases e
      · rwa [List.getElem?_set_ne hj] at e
    obtain ⟨v, e2, hv⟩ := rel.fz j y e'
    exact ⟨v, e2, hv.step s.k2 s.z hO⟩
  · by_cases hj : i = j
    · subst hj
      rw [List.getElem?_set_self hl] at e; cases e
      exact ⟨a, ha, nz', mu, hc, hb⟩
    · rw [List.getElem?_set_ne hj] at e
      obtain ⟨a2, e2, nz2, m2, c2, hb2⟩ := rel.ow j c y e
      have ne : a2 ≠ a := fun q => hj (rel.inj i j _ _ _ _ a hi e ha (by rw [← q]; exact e2))
      have nz3 : ¬ Z' a2 := fun z => (s.n a2 z).elim nz2 fun q => q.elim (mut_some m2) ne
      refine ⟨a2, e2, nz3, ?_, c2.step s.k2 s.z hO ne, hb2⟩
      cases q : H a2 with
      | none => exact absurd q (mut_some m2)
      | some o => rw [s.k1 a2 o q ne nz3, ← q]; exact m2
  · obtain ⟨z1, q1⟩ := l e1
    obtain ⟨z2, q2⟩ := l e2
    exact rel.inj j k _ _ _ _ a' q1 q2
  · obtain ⟨z1, q1⟩ := l e1
    exact .inr ⟨j, c2, z1, q1, e2⟩
theorem de_callI {X : Cx} {W : WX} {x : Str} {e : Expr} {es : List Expr} {p pos : Pos} {k n : Nat} {f : Addr} {fd : FuncData} {ps : List Str} {F : D → List D → Res (RF × D)} {ma : MA} (tk : Takes X W)
    (G : FnG X.prog X.w X.K X.mg X.base k f fd ps (spI X.K X.mg n F)) (hr : Room k X.A) (gd : X.A.guards = some []) (hg : Gl X x) (hm : X.mg x = some (.ref f)) (hk : PySem.W.keepIn X.K (.ref f) = true) (hb : Binds X.K fd ps []) (ha : DA X W (e :: es) ma)
    (hdb : (x == ("__debug__" : Str)) = false := by decide) (he : starEach (e :: es) X.env = (false, eval e X.env) :: starEach es X.env := by rfl) (hpl : (backTo pos (starEach es X.env)).any (·.1) = false := by rfl) :
    DE X W (.Call (.Name x p) (e :: es) [] pos) (mCallI n F ma) :=
  PE.imp (pe_callG G hr gd hg hm hk hb (fun σ => passAt tk σ) ha hdb he hpl) fun σ H Q ⟨B, Z, ρ, rel, h⟩ => opds rel h fun xs Z1 H1 rs ρ1 rel1 s1 dxs h1 => by
    simp only at h1
    cases dxs with
    | nil => exact h1.elim
    | @cons v0 vs0 r0 rs0 d0 t0 =>
      cases r0 with
      | fz _ => exact h1.elim
      | ow _ => exact h1.elim
      | sl i =>
        have d0 : σ[i]? = some (some v0) := d0
        simp only at h1
        cases e : frzs rs0 ρ1 with
        | none => rw [e] at h1; exact h1.elim
        | some p =>
          obtain ⟨ds, ρ2⟩ := p
          rw [e] at h1
          simp only at h1
          obtain ⟨Z2, rel2, s2, t⟩ := frzs_ok rel1 t0 e
          have h2 := h1.move (fun _ _ _ _ _ q => q) s2
          cases e4 : ρ2[i]? with
          | none => rw [e4] at h2; exact h2.elim
          | some sl =>
            rw [e4] at h2
            cases sl with
            | un => exact h2.elim
            | fz _ => exact h2.elim
            | ow b d =>
              simp only at h2
              obtain ⟨a, e5, nz, m, c, _⟩ := rel2.ow i b d e4
              rw [d0] at e5
              cases e5
              refine ⟨Z2, a, vs0, d, ds, rfl, rel2.dom, nz, m, c, t, ?_⟩
              cases e3 : lenIsI n F d ds with
              | stuck => rw [e3] at h2; exact h2.elim
              | exc y =>
                rw [e3] at h2
                intro cls dx Z' H' st xd
                refine h2 cls dx Z' H' ⟨fun c o e n nz => st.k1 c o e (fun q => n ⟨i, b, d, e4, by rw [q]; exact d0⟩) nz, fun c u r n => st.k2 c u r fun q => n ⟨i, b, d, e4, by rw [q]; exact d0⟩, st.z, fun c z => (st.n c z).elim .inl fun q => q.elim (fun q => .inr (.inl q)) fun q => .inr (.inr ⟨i, b, d, e4, by rw [q]; exact d0⟩), fun c z => .inr z, st.p, st.d⟩ xd
              | ok r =>
                obtain ⟨r, d'⟩ := r
                rw [e3] at h2
                intro v Z' H' st nz' mu' c' rd
                obtain ⟨rel', st'⟩ := rel_callI rel2 e4 d0 st nz' mu' c'
                exact h2 v Z' H' rel' st' ((rfden (fun a o => rel2.far a (o.set_ow e4)) rd).from fun a q => s2.p a (s1.p a q))
end
end DL
end
section
namespace DL
open PySem PySem.Spec PyProof.Rows L2
section
variable {K : PySem.W.Frag} {mg : Str → Option Value} {Z Z' Z0 Z1 Z2 : Addr → Prop} {H H' H0 H1 H2 H3 : Hp} {O O' O1 O2 : Addr → Prop} {ρ ρ' ρ0 ρ1 ρ2 : Env} {σ σ' σ0 σ1 σ2 : L2.St} {B : Addr}

/-! ### statements -/
/-- what a slot holds is frozen ahead of being stored elsewhere -/
def nrm : R → Env → Option (R × Env)
  | .sl j, ρ => match frz1 (.sl j) ρ with
    | some (d, ρ') => some (.fz d, ρ')
    | none => none
  | r, ρ => some (r, ρ)

inductive Fl where
  | nx | bk | ct | rt (r : RF)
abbrev MS := Env → Res (Fl × Env)
def RTDen (K : PySem.W.Frag) (mg : Str → Option Value) (H : Hp) (O : Addr → Prop) (Z' : Addr → Prop) (H' : Hp) (ρ' : Env) (σ' : L2.St) (v : V) : RF → Prop
  | .fz d => Den K mg Z' H' v d
  | .ow d => ∃ a, v = .ref a ∧ (H a = none ∨ O a) ∧ ¬ Z' a ∧ Mut (H' a) ∧ ¬ Od ρ' σ' a ∧ Cont K mg Z' H' a d
def FinS (K : PySem.W.Frag) (mg : Str → Option Value) (W : WX) (B : Addr) (Z : Addr → Prop) (H : Hp) (ρ : Env) (σ : L2.St) (res : Res (Fl × Env)) (D : Ends) : Prop :=
  match res with
  | .ok (.nx, ρ') => ∀ σ' Z' H', Rel K mg B Z' H' ρ' σ' → Step Z H (Od ρ σ) Z' H' (Od ρ' σ') → D.nx σ' H'
  | .ok (.bk, ρ') => ∀ σ' Z' H', Rel K mg B Z' H' ρ' σ' → Step Z H (Od ρ σ) Z' H' (Od ρ' σ') → D.bk σ' H'
  | .ok (.ct, ρ') => ∀ σ' Z' H', Rel K mg B Z' H' ρ' σ' → Step Z H (Od ρ σ) Z' H' (Od ρ' σ') → D.ct σ' H'
  | .ok (.rt r, ρ') => ∀ σ' v Z' H', Rel K mg B Z' H' ρ' σ' → Step Z H (Od ρ σ) Z' H' (Od ρ' σ') → RTDen K mg H (Od ρ σ) Z' H' ρ' σ' v r → D.rt v H'
  | .exc x => ∀ cls dx σ' Z' H', Step Z H (Od ρ σ) Z' H' (Od ρ σ) → XDen K mg Z' H' x cls dx → W cls dx σ' H'
  | .stuck => False
def tS (K : PySem.W.Frag) (mg : Str → Option Value) (W : WX) (m : MS) : TS := fun D σ H => ∃ B Z ρ, Rel K mg B Z H ρ σ ∧ FinS K mg W B Z H ρ σ (m ρ) D
abbrev DS (X : Cx) (W : WX) (st : Stmt) (m : MS) : Prop := PS X st (tS X.K X.mg W m)
abbrev DB (X : Cx) (W : WX) (st : List Stmt) (m : MS) : Prop := PSs X st (tS X.K X.mg W m)

theorem FinS.move {W : WX} {res : Res (Fl × Env)} {D : Ends} (s : Step Z H (Od ρ σ) Z1 H1 (Od ρ1 σ1)) (h : FinS K mg W B Z H ρ σ res D) : FinS K mg W B Z1 H1 ρ1 σ1 res D := by
  cases res with
  | stuck => exact h
  | exc x => exact fun cls dx σ' Z' H' st xd => h cls dx σ' Z' H' ((s.trans st).own fun _ z => .inr z) xd
  | ok p =>
    obtain ⟨fl, ρ'⟩ := p
    cases fl with
    | nx => exact fun σ' Z' H' r st => h σ' Z' H' r (s.trans st)
    | bk => exact fun σ' Z' H' r st => h σ' Z' H' r (s.trans st)
    | ct => exact fun σ' Z' H' r st => h σ' Z' H' r (s.trans st)
    | rt r =>
      intro σ' v Z' H' rel st rd
      refine h σ' v Z' H' rel (s.trans st) ?_
      cases r with
      | fz d => exact rd
      | ow d =>
        obtain ⟨a, e, n, q⟩ := rd
        refine ⟨a, e, ?_, q⟩
        rcases n with n | n
        · refine .inl ?_
          cases e' : H a with
          | none => rfl
          | some o => exact absurd n (s.p a (by rw [e']; simp))
        · exact s.o a n
/-- an operand of a statement -/
theorem opdS {W : WX} {ma : ME} {f : R × Env → Res (Fl × Env)} {D : Ends} {Q1 : VK} (rel : Rel K mg B Z H ρ σ) (h : FinS K mg W B Z H ρ σ ((ma ρ).bind f) D)
    (hq : ∀ v Z1 H1 r ρ1, Rel K mg B Z1 H1 ρ1 σ → Step Z H (Od ρ σ) Z1 H1 (Od ρ1 σ) → RDen K mg H Z1 H1 ρ1 σ v r → FinS K mg W B Z H ρ σ (f (r, ρ1)) D → Q1 v H1) : tD K mg W ma σ H Q1 := by
  refine ⟨B, Z, ρ, rel, ?_⟩
  cases e : ma ρ with
  | stuck => rw [e] at h; exact h
  | exc x => rw [e] at h; exact fun cls dx Z' H' st xd => h cls dx σ Z' H' st xd
  | ok p =>
    obtain ⟨r, ρ1⟩ := p
    rw [e] at h
    exact fun v Z1 H1 rel1 st d => hq v Z1 H1 r ρ1 rel1 st d h
theorem opdS2 {W : WX} {ma : ME} {f : R × Env → Res (Fl × Env)} {D : Ends} {Q1 : VK} (rel : Rel K mg B Z H ρ σ) (s0 : Step Z0 H0 (Od ρ0 σ0) Z H (Od ρ σ)) (h : FinS K mg W B Z0 H0 ρ0 σ0 ((ma ρ).bind f) D)
    (hq : ∀ v Z1 H1 r ρ1, Rel K mg B Z1 H1 ρ1 σ → Step Z H (Od ρ σ) Z1 H1 (Od ρ1 σ) → RDen K mg H Z1 H1 ρ1 σ v r → FinS K mg W B Z0 H0 ρ0 σ0 (f (r, ρ1)) D → Q1 v H1) : tD K mg W ma σ H Q1 := by
  refine ⟨B, Z, ρ, rel, ?_⟩
  cases e : ma ρ with
  | stuck => rw [e] at h; exact h
  | exc x => rw [e] at h; exact fun cls dx Z' H' st xd => h cls dx σ Z' H' ((s0.trans st).own fun _ z => .inr z) xd
  | ok p =>
    obtain ⟨r, ρ1⟩ := p
    rw [e] at h
    exact fun v Z1 H1 rel1 st d => hq v Z1 H1 r ρ1 rel1 st d h
theorem nrm_ow {r : R} {z : D} (e : nrm r ρ = some (.ow z, ρ')) : r = .ow z := by
  cases r with
  | fz x => cases e
  | ow x => cases e; rfl
  | sl x =>
    unfold nrm at e
    cases q : frz1 (.sl x) ρ with
    | none => simp only [q] at e; cases e
    | some p =>
      simp only [q] at e
      injection e with e
      injection e with e1 _
      cases e1
theorem topdS {W : WX} {ma : MT} {f : Bool × Env → Res (Fl × Env)} {D : Ends} {Q1 : Bool → Hp → Prop} (rel : Rel K mg B Z H ρ σ) (h : FinS K mg W B Z H ρ σ ((ma ρ).bind f) D)
    (hq : ∀ v Z1 H1 ρ1, Rel K mg B Z1 H1 ρ1 σ → Step Z H (Od ρ σ) Z1 H1 (Od ρ1 σ) → FinS K mg W B Z1 H1 ρ1 σ (f (v, ρ1)) D → Q1 v H1) : tT K mg W ma σ H Q1 := by
  refine ⟨B, Z, ρ, rel, ?_⟩
  cases e : ma ρ with
  | stuck => rw [e] at h; exact h
  | exc x => rw [e] at h; exact fun cls dx Z' H' st xd => h cls dx σ Z' H' st xd
  | ok p =>
    obtain ⟨r, ρ1⟩ := p
    rw [e] at h
    intro v Z1 H1 rel1 st d
    subst d
    exact hq v Z1 H1 ρ1 rel1 st (FinS.move st h)

def mNx : MS := fun ρ => .ok (.nx, ρ)
def mBk : MS := fun ρ => .ok (.bk, ρ)
def mCt : MS := fun ρ => .ok (.ct, ρ)
def thenS (m2 : MS) : Fl × Env → Res (Fl × Env)
  | (.nx, ρ) => m2 ρ
  | p => .ok p
def mSeq (m1 m2 : MS) : MS := fun ρ => (m1 ρ).bind (thenS m2)
theorem db_nil {X : Cx} {W : WX} : DB X W [] mNx := PSs.imp pss_nil fun D σ H ⟨B, Z, ρ, rel, h⟩ => h σ Z H rel .refl
theorem ds_pass {X : Cx} {W : WX} {pos : Pos} : DS X W (.Pass pos) mNx := PS.imp ps_pass fun D σ H ⟨B, Z, ρ, rel, h⟩ => h σ Z H rel .refl
theorem ds_break {X : Cx} {W : WX} {pos : Pos} : DS X W (.Break pos) mBk := PS.imp ps_break fun D σ H ⟨B, Z, ρ, rel, h⟩ => h σ Z H rel .refl
theorem ds_cont {X : Cx} {W : WX} {pos : Pos} : DS X W (.Continue pos) mCt := PS.imp ps_continue fun D σ H ⟨B, Z, ρ, rel, h⟩ => h σ Z H rel .refl
theorem seq_ok {W : WX} {m1 m2 : MS} {D : Ends} (h : tS K mg W (mSeq m1 m2) D σ H) : tSeq (tS K mg W m1) (tS K mg W m2) D σ H := by
  obtain ⟨B, Z, ρ, rel, h⟩ := h
  refine ⟨B, Z, ρ, rel, ?_⟩
  unfold mSeq at h
  cases e : m1 ρ with
  | stuck => rw [e] at h; exact h
  | exc x => rw [e] at h; exact h
  | ok p =>
    obtain ⟨fl, ρ1⟩ := p
    rw [e] at h
    cases fl with
    | nx => exact fun σ' Z' H' rel' st => ⟨B, Z', ρ1, rel', FinS.move st h⟩
    | bk => exact h
    | ct => exact h
    | rt r => exact h
theorem db_cons {X : Cx} {W : WX} {st : Stmt} {rest : List Stmt} {m1 m2 : MS} (h1 : DS X W st m1) (h2 : DB X W rest m2) : DB X W (st :: rest) (mSeq m1 m2) := PSs.imp (pss_cons h1 h2) fun _ _ _ h => seq_ok h
theorem db_one {X : Cx} {W : WX} {st : Stmt} {m1 : MS} (h1 : DS X W st m1) : DB X W [st] m1 := pss_one h1
def mExpr (m : ME) : MS := fun ρ => (m ρ).bind fun p => .ok (.nx, p.2)
theorem ds_expr {X : Cx} {W : WX} {e : Expr} {m : ME} {pos : Pos} (he : DE X W e m) (hs : swapsWith e none pos.line X.env = pure false := by rfl) : DS X W (.Expr e pos) (mExpr m) :=
  PS.imp (ps_expr he hs) fun D σ H ⟨B, Z, ρ, rel, h⟩ => opdS rel h fun v Z1 H1 r ρ1 rel1 s1 d h1 => h1 σ Z1 H1 rel1 s1
theorem ds_doc {X : Cx} {W : WX} {x j pos pos'} : DS X W (.Expr (.Constant (.str x) j pos) pos') mNx := PS.imp ps_doc fun D σ H ⟨B, Z, ρ, rel, h⟩ => h σ Z H rel .refl
def mIfS (c : MT) (a b : MS) : MS := fun ρ => (c ρ).bind fun p => if p.1 = true then a p.2 else b p.2
theorem ds_if {X : Cx} {W : WX} {c : Expr} {a b : List Stmt} {mc : MT} {ma mb : MS} {pos : Pos} (hc : DT X W c mc) (ha : DB X W a ma) (hb : DB X W b mb) : DS X W (.If c a b pos) (mIfS mc ma mb) :=
  PS.imp (ps_if hc ha hb) fun D σ H ⟨B, Z, ρ, rel, h⟩ => topdS rel h fun v Z1 H1 ρ1 rel1 s1 h1 => by
    cases v with
    | true => exact ⟨B, Z1, ρ1, rel1, h1⟩
    | false => exact ⟨B, Z1, ρ1, rel1, h1⟩
def mRet (m : ME) : MS := fun ρ => (m ρ).bind fun p => match p.1 with
  | .fz d => .ok (.rt (.fz d), p.2)
  | .ow d => .ok (.rt (.ow d), p.2)
  | .sl i => match p.2[i]? with
    | some (.fz d) => .ok (.rt (.fz d), p.2)
    | some (.ow false d) => .ok (.rt (.ow d), p.2.set i .un)
    | _ => .stuck
theorem rel_un {i : Nat} (rel : Rel K mg B Z H ρ σ) : Rel K mg B Z H (ρ.set i .un) σ ∧ (∀ a, Od (ρ.set i .un) σ a → Od ρ σ a) := by
  have l : ∀ {j s}, (ρ.set i .un)[j]? = some s → s ≠ .un → ρ[j]? = some s ∧ i ≠ j := fun {j s} e n => by
    by_cases hj : i = j
    · subst hj
      by_cases hl : i < ρ.length
      · rw [List.getElem?_set_self hl] at e; cases e; exact absurd rfl n
      · rw [List.getElem?_eq_none (by simpa using hl)] at e; cases e
    · rw [List.getElem?_set_ne hj] at e
      exact ⟨e, hj⟩
  exact ⟨⟨by rw [List.length_set]; exact rel.len, rel.dom, fun j d e => rel.fz j d (l e (by simp)).1, fun j b d e => rel.ow j b d (l e (by simp)).1, fun j k b c d e a e1 e2 => rel.inj j k b c d e a (l e1 (by simp)).1 (l e2 (by simp)).1⟩,
    fun a ⟨j, b, d, e, e'⟩ => ⟨j, b, d, (l e (by simp)).1, e'⟩⟩
theorem ret_ok {W : WX} {m : ME} {D : Ends} (h : tS K mg W (mRet m) D σ H) : tRet (tD K mg W m) D σ H := by
  obtain ⟨B, Z, ρ, rel, h⟩ := h
  refine opdS rel h fun v Z1 H1 r ρ1 rel1 s1 d h1 => ?_
  cases r with
  | fz x => exact h1 σ v Z1 H1 rel1 s1 d
  | ow x =>
    obtain ⟨a, e, n, nz, m, no, c⟩ := d
    exact h1 σ v Z1 H1 rel1 s1 ⟨a, e, .inl n, nz, m, no, c⟩
  | sl i =>
    have d : σ[i]? = some (some v) := d
    simp only at h1
    cases e : ρ1[i]? with
    | none => rw [e] at h1; exact h1.elim
    | some s =>
      rw [e] at h1
      cases s with
      | un => exact h1.elim
      | fz x =>
        obtain ⟨u, e', hu⟩ := rel1.fz i _ e
        rw [d] at e'; cases e'
        exact h1 σ _ Z1 H1 rel1 s1 hu
      | ow b x =>
        cases b with
        | true => exact h1.elim
        | false =>
          obtain ⟨a, e', nz, m, c, _⟩ := rel1.ow i _ _ e
          rw [d] at e'; cases e'
          obtain ⟨rel2, so⟩ := rel_un (i := i) rel1
          have oa : Od ρ1 σ a := ⟨i, false, _, e, d⟩
          refine h1 σ _ Z1 H1 rel2 (s1.own fun x z => s1.o x (so x z)) ⟨a, rfl, s1.o a oa, nz, m, fun ⟨j, b, y, e1, e2⟩ => ?_, c⟩
          by_cases hj : i = j
          · subst hj
            rw [List.getElem?_set_self (List.getElem?_eq_some_iff.mp e).1] at e1; cases e1
          · rw [List.getElem?_set_ne hj] at e1
            exact hj (rel1.inj i j _ _ _ _ a e e1 d e2)
theorem ds_ret {X : Cx} {W : WX} {e : Expr} {m : ME} {pos : Pos} (he : DE X W e m) : DS X W (.Return (some e) pos) (mRet m) := PS.imp (ps_ret he) fun _ _ _ h => ret_ok h
def mRetN : MS := fun ρ => .ok (.rt (.fz .non), ρ)
theorem ds_retN {X : Cx} {W : WX} {pos : Pos} : DS X W (.Return none pos) mRetN := PS.imp ps_retN fun D σ H ⟨B, Z, ρ, rel, h⟩ => h σ .non Z H rel .refl .non
def mNever : MS := fun _ => .stuck
theorem ds_never {X : Cx} {W : WX} {st : Stmt} : DS X W st mNever := PS.imp ps_never fun D σ H ⟨B, Z, ρ, rel, h⟩ => h

/-! ### stores -/
theorem rel_set_fz {i : Nat} {v : V} {d : D} (rel : Rel K mg B Z H ρ σ) (h : Den K mg Z H v d) : Rel K mg B Z H (ρ.set i (.fz d)) (σ.set i (some v)) ∧ ∀ a, Od (ρ.set i (.fz d)) (σ.set i (some v)) a → Od ρ σ a := by
  have hl := rel.len
  have l : ∀ {j b y}, (ρ.set i (.fz d))[j]? = some (Sl.ow b y) → ρ[j]? = some (Sl.ow b y) ∧ i ≠ j := fun {j b y} e => by
    by_cases hj : i = j
    · subst hj
      by_cases hl : i < ρ.length
      · rw [List.getElem?_set_self hl] at e; cases e
      · rw [List.getElem?_eq_none (by simpa using hl)] at e; cases e
    · rw [List.getElem?_set_ne hj] at e
      exact ⟨e, hj⟩
  refine ⟨⟨by rw [List.length_set, List.length_set]; exact hl, rel.dom, fun j y e => ?_, fun j b y e => ?_, fun j k b c y y' a e1 e2 e3 e4 => ?_⟩, fun a ⟨j, b, y, e1, e2⟩ => ?_⟩
  · by_cases hj : i = j
    · subst hj
      by_cases hi : i < ρ.length
      · rw [List.getElem?_set_self hi] at e; cases e
        exact ⟨v, List.getElem?_set_self (by rw [← hl]; exact hi), h⟩
      · rw [List.getElem?_eq_none (by simpa using hi)] at e; cases e
    · rw [List.getElem?_set_ne hj] at e ⊢
      exact rel.fz j y e
  · obtain ⟨e', hj⟩ := l e
    rw [List.getElem?_set_ne hj]
    exact rel.ow j b y e'
  · obtain ⟨e1', hj⟩ := l e1
    obtain ⟨e2', hk⟩ := l e2
    rw [List.getElem?_set_ne hj] at e3
    rw [List.getElem?_set_ne hk] at e4
    exact rel.inj j k b c y y' a e1' e2' e3 e4
  · obtain ⟨e1', hj⟩ := l e1
    rw [List.getElem?_set_ne hj] at e2
    exact ⟨j, b, y, e1', e2⟩
theorem rel_set_ow {i : Nat} {a : Addr} {d : D} (rel : Rel K mg B Z H ρ σ) (nz : ¬ Z a) (m : Mut (H a)) (no : ¬ Od ρ σ a) (c : Cont K mg Z H a d) :
    Rel K mg B Z H (ρ.set i (.ow false d)) (σ.set i (some (.ref a))) ∧ ∀ x, Od (ρ.set i (.ow false d)) (σ.set i (some (.ref a))) x → x = a ∨ Od ρ σ x := by
  have hl := rel.len
  have l : ∀ {j b y}, (ρ.set i (.ow false d))[j]? = some (Sl.ow b y) → (i = j ∧ i < ρ.length ∧ b = false ∧ y = d) ∨ (ρ[j]? = some (Sl.ow b y) ∧ i ≠ j) := fun {j b y} e => by
    by_cases hj : i = j
    · subst hj
      by_cases hl : i < ρ.length
      · rw [List.getElem?_set_self hl] at e; cases e
        exact .inl ⟨rfl, hl, rfl, rfl⟩
      · rw [List.getElem?_eq_none (by simpa using hl)] at e; cases e
    · rw [List.getElem?_set_ne hj] at e
      exact .inr ⟨e, hj⟩
  refine ⟨⟨by rw [List.length_set, List.length_set]; exact hl, rel.dom, fun j y e => ?_, fun j b y e => ?_, fun j k b c' y y' x e1 e2 e3 e4 => ?_⟩, fun x ⟨j, b, y, e1, e2⟩ => ?_⟩
  · by_cases hj : i = j
    · subst hj
      by_cases hi : i < ρ.length
      · rw [List.getElem?_set_self hi] at e; cases e
      · rw [List.getElem?_eq_none (by simpa using hi)] at e; cases e
    · rw [List.getElem?_set_ne hj] at e ⊢
      exact rel.fz j y e
  · rcases l e with ⟨hj, hi, hb, hy⟩ | ⟨e', hj⟩
    · subst hj hb hy
      exact ⟨a, List.getElem?_set_self (by rw [← hl]; exact hi), nz, m, c, fun q => nomatch q⟩
    · rw [List.getElem?_set_ne hj]
      exact rel.ow j b y e'
  · rcases l e1 with ⟨hj, hi, _, _⟩ | ⟨e1', hj⟩ <;> rcases l e2 with ⟨hk, hi', _, _⟩ | ⟨e2', hk⟩
    · exact hj.symm.trans hk
    · subst hj
      rw [List.getElem?_set_self (by rw [← hl]; exact hi)] at e3
      cases e3
      rw [List.getElem?_set_ne hk] at e4
      exact absurd ⟨k, c', y', e2', e4⟩ no
    · subst hk
      rw [List.getElem?_set_self (by rw [← hl]; exact hi')] at e4
      cases e4
      rw [List.getElem?_set_ne hj] at e3
      exact absurd ⟨j, b, y, e1', e3⟩ no
    · rw [List.getElem?_set_ne hj] at e3
      rw [List.getElem?_set_ne hk] at e4
      exact rel.inj j k b c' y y' x e1' e2' e3 e4
  · rcases l e1 with ⟨hj, hi, _, _⟩ | ⟨e1', hj⟩
    · subst hj
      rw [List.getElem?_set_self (by rw [← hl]; exact hi)] at e2
      cases e2
      exact .inl rfl
    · rw [List.getElem?_set_ne hj] at e2
      exact .inr ⟨j, b, y, e1', e2⟩
theorem RDen.step {v : V} {r : R} {Hs : Hp} (rel : Rel K mg B Z H ρ σ) (s : Step Z H (Od ρ σ) Z' H' (Od ρ' σ)) (h : RDen K mg Hs Z H ρ σ v r) : RDen K mg Hs Z' H' ρ' σ v r := by
  cases r with
  | fz d => exact rel.den s h
  | sl i => exact h
  | ow d =>
    obtain ⟨a, e, n, nz, m, no, c⟩ := h
    have nz' : ¬ Z' a := fun z => (s.n a z).elim nz fun q => q.elim (mut_some m) no
    refine ⟨a, e, n, nz', ?_, fun o => (s.o a o).elim (mut_some m) no, c.step s.k2 s.z rel.owned no⟩
    cases q : H a with
    | none => exact absurd q (mut_some m)
    | some o => rw [s.k1 a o q no nz', ← q]; exact m
theorem nrm_ok {v : V} {r r' : R} {Hs : Hp} (rel : Rel K mg B Z H ρ σ) (h : RDen K mg Hs Z H ρ σ v r) (e : nrm r ρ = some (r', ρ')) : ∃ Z', Rel K mg B Z' H ρ' σ ∧ Step Z H (Od ρ σ) Z' H (Od ρ' σ) ∧ RDen K mg Hs Z' H ρ' σ v r' := by
  cases r with
  | fz d => cases e; exact ⟨Z, rel, .refl, h⟩
  | ow d => cases e; exact ⟨Z, rel, .refl, h⟩
  | sl j =>
    unfold nrm at e
    cases q : frz1 (.sl j) ρ with
    | none => simp only [q] at e; cases e
    | some p =>
      obtain ⟨d, ρ1⟩ := p
      simp only [q] at e
      cases e
      exact frz1_ok (r := .sl j) rel h q
def putN (i : Nat) : R → Env → Option Env
  | .fz d, ρ => some (ρ.set i (.fz d))
  | .ow d, ρ => some (ρ.set i (.ow false d))
  | .sl _, _ => none
theorem putN_ok {i : Nat} {v : V} {r : R} {Hs : Hp} (rel : Rel K mg B Z H ρ σ) (h : RDen K mg Hs Z H ρ σ v r) (e : putN i r ρ = some ρ') :
    Rel K mg B Z H ρ' (σ.set i (some v)) ∧ ∀ a, Od ρ' (σ.set i (some v)) a → Od ρ σ a ∨ (v = .ref a ∧ Hs a = none) := by
  cases r with
  | sl _ => cases e
  | fz d =>
    cases e
    obtain ⟨r1, o1⟩ := rel_set_fz (i := i) rel h
    exact ⟨r1, fun a o => .inl (o1 a o)⟩
  | ow d =>
    cases e
    obtain ⟨a, ev, n, nz, m, no, c⟩ := h
    subst ev
    obtain ⟨r1, o1⟩ := rel_set_ow (i := i) rel nz m no c
    exact ⟨r1, fun x o => (o1 x o).elim (fun q => .inr (by subst q; exact ⟨rfl, n⟩)) .inl⟩
def mSet (i : Nat) (m : ME) : MS := fun ρ => (m ρ).bind fun p => match nrm p.1 p.2 with
  | some (r, ρ') => match putN i r ρ' with
    | some ρ2 => .ok (.nx, ρ2)
    | none => .stuck
  | none => .stuck
theorem set_ok {W : WX} {i : Nat} {m : ME} {D : Ends} (h : tS K mg W (mSet i m) D σ H) : tAsg (tD K mg W m) (gName i) D σ H := by
  obtain ⟨B, Z, ρ, rel, h⟩ := h
  refine opdS rel h fun v Z1 H1 r ρ1 rel1 s1 d h1 => ?_
  simp only at h1
  cases e : nrm r ρ1 with
  | none => rw [e] at h1; exact h1.elim
  | some p =>
    obtain ⟨r', ρ2⟩ := p
    rw [e] at h1
    simp only at h1
    obtain ⟨Z2, rel2, s2, d2⟩ := nrm_ok rel1 d e
    cases e2 : putN i r' ρ2 with
    | none => rw [e2] at h1; exact h1.elim
    | some ρ3 =>
      rw [e2] at h1
      obtain ⟨rel3, o3⟩ := putN_ok (i := i) rel2 d2 e2
      exact h1 _ Z2 H1 rel3 ((s1.trans s2).own fun a o => (o3 a o).elim (fun q => (s1.trans s2).o a q) fun q => .inl q.2)
theorem ds_set {X : Cx} {W : WX} {i : Nat} {x : Str} {e : Expr} {m : ME} {pos pos' : Pos} (hN : X.N.Nodup) (hi : X.N[i]? = some x) (hx : Loc X.env.scope x) (he : DE X W e m) (hs : swapsWith e (some (.Name x pos')) pos.line X.env = pure false := by rfl)
    (hf : X.fn x = true ∨ X.env.scope.names.lookup x = some .local := by first | exact .inl rfl | exact .inr rfl | assumption) : DS X W (.Assign [.Name x pos'] e pos) (mSet i m) :=
  PS.imp (ps_set hN hi hx he hs hf) fun _ _ _ h => set_ok h
/-- a, b = x, y -/
def put2 (i j : Nat) (r1 r2 : R) (ρ : Env) : Res (Fl × Env) := match nrm r1 ρ with
  | some (q1, ρ1) => match nrm r2 ρ1 with
    | some (q2, ρ2) => match putN i q1 ρ2 with
      | some ρ3 => match putN j q2 ρ3 with
        | some ρ4 => .ok (.nx, ρ4)
        | none => .stuck
      | none => .stuck
    | none => .stuck
  | none => .stuck
def mPar (i j : Nat) (ma mb : ME) : MS := fun ρ => (ma ρ).bind fun p => (mb p.2).bind fun q => put2 i j p.1 q.1 q.2
theorem par_ok {W : WX} {i j : Nat} {ma mb : ME} {D : Ends} (hij : i ≠ j) (h : tS K mg W (mPar i j ma mb) D σ H) : tPar i j (tCons (tD K mg W ma) (tCons (tD K mg W mb) tNil)) D σ H := by
  obtain ⟨B, Z, ρ, rel, h⟩ := h
  refine opdS rel h fun v Z1 H1 r ρ1 rel1 s1 d h1 => ?_
  refine opdS2 rel1 s1 h1 fun w Z2 H2 q ρ2 rel2 s2 d2 h2 => ⟨v, w, rfl, ?_⟩
  simp only at h2
  unfold put2 at h2
  cases e1 : nrm r ρ2 with
  | none => rw [e1] at h2; exact h2.elim
  | some p =>
    obtain ⟨q1, ρ3⟩ := p
    rw [e1] at h2
    simp only at h2
    obtain ⟨Z3, rel3, s3, d3⟩ := nrm_ok rel2 (d.step rel1 s2) e1
    cases e2 : nrm q ρ3 with
    | none => rw [e2] at h2; exact h2.elim
    | some p =>
      obtain ⟨q2, ρ4⟩ := p
      rw [e2] at h2
      simp only at h2
      obtain ⟨Z4, rel4, s4, d4⟩ := nrm_ok rel3 (d2.step rel2 s3) e2
      have d3' := d3.step rel3 s4
      cases e3 : putN i q1 ρ4 with
      | none => rw [e3] at h2; exact h2.elim
      | some ρ5 =>
        rw [e3] at h2
        simp only at h2
        obtain ⟨rel5, o5⟩ := putN_ok (i := i) rel4 d3' e3
        cases e4 : putN j q2 ρ5 with
        | none => rw [e4] at h2; exact h2.elim
        | some ρ6 =>
          rw [e4] at h2
          have d5 : RDen K mg H1 Z4 H2 ρ5 (σ.set i (some v)) w q2 := by
            cases q2 with
            | sl _ => cases e4
            | fz y => exact d4
            | ow y =>
              obtain ⟨a, ev, n, nz, m, no, c⟩ := d4
              refine ⟨a, ev, n, nz, m, fun o => ?_, c⟩
              rcases o5 a o with o | ⟨ev', n'⟩
              · exact no o
              · -- the first thing stands ahead of the second one
                cases q1 with
                | sl _ => cases e3
                | fz z =>
                  obtain ⟨_, o5'⟩ := rel_set_fz (i := i) rel4 d3'
                  cases e3
                  exact no (o5' a o)
                | ow z =>
                  obtain rfl := nrm_ow e1
                  obtain ⟨c', ec, _, _, mc, _, _⟩ := d
                  rw [ev'] at ec; cases ec
                  exact mut_some mc n
          obtain ⟨rel6, o6⟩ := putN_ok (i := j) rel5 d5 e4
          have st : Step Z H (Od ρ σ) Z4 H2 (Od ρ4 σ) := ((s1.trans s2).trans s3).trans s4
          have none0 : ∀ a, H1 a = none → H a = none := fun a n => by
            cases e : H a with
            | none => rfl
            | some o => exact absurd n (s1.p a (by rw [e]; simp))
          refine h2 _ Z4 H2 rel6 (st.own fun a o => ?_)
          rcases o6 a o with o | ⟨_, n⟩
          · rcases o5 a o with o | ⟨_, n⟩
            · exact st.o a o
            · exact .inl n
          · exact .inl (none0 a n)
theorem ds_par {X : Cx} {W : WX} {i j : Nat} {x y : Str} {a b : Expr} {ma mb : ME} {px py pt : Pos} {kt k2 pt2} {pos : Pos} (hc : X.calm = true) (hN : X.N.Nodup) (hi : X.N[i]? = some x) (hj : X.N[j]? = some y) (hij : i ≠ j)
    (hx : X.env.scope.names.lookup x = some .local) (hy : X.env.scope.names.lookup y = some .local) (ha : DE X W a ma) (hb : DE X W b mb)
    (hw : swappedStores [.Tuple [.Name x px, .Name y py] kt pt] (.Tuple [a, b] k2 pt2) X.env = pure (some [x, y]))
    (hs : swapsWithSole [.Tuple [.Name x px, .Name y py] kt pt] (.Tuple [a, b] k2 pt2) pos.line X.env = pure false := by rfl)
    (h1 : starEach [a, b] X.env = (false, eval a X.env) :: starEach [b] X.env := by rfl) (h2 : starEach [b] X.env = (false, eval b X.env) :: starEach [] X.env := by rfl) :
    DS X W (.Assign [.Tuple [.Name x px, .Name y py] kt pt] (.Tuple [a, b] k2 pt2) pos) (mPar i j ma mb) :=
  PS.imp (ps_par hc hN hi hj hij hx hy (pa_cons ha (pa_cons hb pa_nil h2) h1) hw hs) fun _ _ _ h => par_ok hij h
end
end DL
end
section
namespace DL
open PySem PySem.Spec PyProof.Rows L2
section
variable {K : PySem.W.Frag} {mg : Str → Option Value} {Z Z' Z0 Z1 Z2 : Addr → Prop} {H H' H0 H1 H2 H3 : Hp} {O O' O1 O2 : Addr → Prop} {ρ ρ' ρ0 ρ1 ρ2 : Env} {σ σ' σ0 σ1 σ2 : L2.St} {B : Addr}

/-! ### targets -/
abbrev MG := D → Env → Option Env
abbrev MGs := List D → Env → Option Env
/-- alike but at the slots vs -/
def But (vs : List Nat) (σ σ' : L2.St) : Prop := σ'.length = σ.length ∧ ∀ i : Nat, i ∉ vs → σ'[i]? = σ[i]?
theorem But.refl {vs : List Nat} : But vs σ σ := ⟨rfl, fun _ _ => rfl⟩
theorem But.set {i : Nat} {v : Option V} : But [i] σ (σ.set i v) := ⟨by rw [List.length_set], fun j n => List.getElem?_set_ne (fun e => n (by rw [e]; simp))⟩
theorem But.app {v1 v2 : List Nat} (a : But v1 σ σ1) (b : But v2 σ1 σ2) : But (v1 ++ v2) σ σ2 := ⟨b.1.trans a.1, fun i n => (b.2 i fun h => n (List.mem_append_right _ h)).trans (a.2 i fun h => n (List.mem_append_left _ h))⟩
def gD (K : PySem.W.Frag) (mg : Str → Option Value) (vs : List Nat) (gm : MG) : TG := fun v σ H Q => ∃ B Z ρ d ρ', Rel K mg B Z H ρ σ ∧ Den K mg Z H v d ∧ gm d ρ = some ρ' ∧ ∀ σ' Z' H', Rel K mg B Z' H' ρ' σ' → Step Z H (Od ρ σ) Z' H' (Od ρ' σ') → But vs σ σ' → Q σ' H'
def gDs (K : PySem.W.Frag) (mg : Str → Option Value) (vs : List Nat) (gm : MGs) : TGs := fun v σ H Q => ∃ B Z ρ d ρ', Rel K mg B Z H ρ σ ∧ DenAll K mg Z H v d ∧ gm d ρ = some ρ' ∧ ∀ σ' Z' H', Rel K mg B Z' H' ρ' σ' → Step Z H (Od ρ σ) Z' H' (Od ρ' σ') → But vs σ σ' → Q σ' H'
abbrev DG (X : Cx) (vs : List Nat) (e : Expr) (gm : MG) : Prop := PG X e (gD X.K X.mg vs gm)
abbrev DGs (X : Cx) (vs : List Nat) (e : List Expr) (gm : MGs) : Prop := PGs X e (gDs X.K X.mg vs gm)
theorem PG.imp {X : Cx} {e : Expr} {t t' : TG} (h : PG X e t) (hi : ∀ v σ H Q, t' v σ H Q → t v σ H Q) : PG X e t' := ⟨fun pins s σ H v u Q I r q => h.run pins s σ H v u Q I r (hi _ _ _ _ q)⟩
theorem PGs.imp {X : Cx} {e : List Expr} {t t' : TGs} (h : PGs X e t) (hi : ∀ v σ H Q, t' v σ H Q → t v σ H Q) : PGs X e t' := ⟨fun pins s σ H v u Q I r q => h.run pins s σ H v u Q I r (hi _ _ _ _ q)⟩
def gmN (i : Nat) : MG := fun d ρ => some (ρ.set i (.fz d))
def gmNil : MGs
  | [], ρ => some ρ
  | _, _ => none
def gmCons (g : MG) (gs : MGs) : MGs
  | d :: ds, ρ => match g d ρ with
    | some ρ' => gs ds ρ'
    | none => none
  | _, _ => none
def gmT (n : Nat) (gs : MGs) : MG
  | .tup ds, ρ => if ds.length = n then gs ds ρ else none
  | _, _ => none
theorem dg_n {X : Cx} {i : Nat} {x : Str} {pos : Pos} (hN : X.N.Nodup) (hi : X.N[i]? = some x) (hx : Loc X.env.scope x) (hf : X.fn x = true ∨ X.env.scope.names.lookup x = some .local := by first | exact .inl rfl | exact .inr rfl | assumption) : DG X [i] (.Name x pos) (gmN i) :=
  PG.imp (pg_name hN hi hx hf) fun v σ H Q ⟨B, Z, ρ, d, ρ', rel, h, e, q⟩ => by
    cases e
    obtain ⟨r1, o1⟩ := rel_set_fz (i := i) rel h
    exact q _ Z H r1 (Step.refl.own fun a o => .inr (o1 a o)) But.set
theorem dgs_nil {X : Cx} : DGs X [] [] gmNil := PGs.imp pgs_nil fun v σ H Q ⟨B, Z, ρ, d, ρ', rel, h, e, q⟩ => by
  cases h with
  | nil => cases e; exact ⟨rfl, q σ Z H rel .refl .refl⟩
  | cons _ _ => cases e
theorem dgs_cons {X : Cx} {e : Expr} {es : List Expr} {g : MG} {gs : MGs} {v1 v2 : List Nat} (h1 : DG X v1 e g) (h2 : DGs X v2 es gs)
    (hs : (assignEach (e :: es) X.env).map (·.2) = assign e X.env :: (assignEach es X.env).map (·.2) := by rfl) : DGs X (v1 ++ v2) (e :: es) (gmCons g gs) :=
  PGs.imp (pgs_cons h1 h2 hs) fun v σ H Q ⟨B, Z, ρ, d, ρ', rel, h, e, q⟩ => by
    cases h with
    | nil => cases e
    | @cons v0 vs0 d0 ds0 hd tl =>
      unfold gmCons at e
      cases e1 : g d0 ρ with
      | none => simp only [e1] at e; cases e
      | some ρ1 =>
        simp only [e1] at e
        exact ⟨v0, vs0, rfl, B, Z, ρ, d0, ρ1, rel, hd, e1, fun σ' Z' H' rel' st bu => ⟨B, Z', ρ1, ds0, ρ', rel', rel.dens st tl, e, fun σ2 Z2 H2 rel2 st2 bu2 => q σ2 Z2 H2 rel2 (st.trans st2) (bu.app bu2)⟩⟩
theorem dg_t {X : Cx} {es : List Expr} {k : Nat} {gs : MGs} {vs : List Nat} {n : Nat} {pos : Pos} (hc : X.calm = true) (h : DGs X vs es gs) (hn : (assignEach es X.env).length = n := by rfl) (hst : (assignEach es X.env).findIdx? (·.1) = none := by rfl) : DG X vs (.Tuple es k pos) (gmT n gs) :=
  PG.imp (pg_tup hc h hn hst) fun v σ H Q ⟨B, Z, ρ, d, ρ', rel, h, e, q⟩ => by
    cases d with
    | tup ds =>
      obtain ⟨a, xs, rfl, hs, t⟩ := Pk.tup (.inl h)
      have e : (if ds.length = n then gs ds ρ else none) = some ρ' := e
      split at e
      · rename_i hl
        exact ⟨a, xs, rfl, hs, by rw [t.length]; exact hl, B, Z, ρ, ds, ρ', rel, t, e, q⟩
      · cases e
    | _ => cases e
def mAsg (gm : MG) (m : ME) : MS := fun ρ => (m ρ).bind fun p => match p.1 with
  | .fz d => match gm d p.2 with
    | some ρ' => .ok (.nx, ρ')
    | none => .stuck
  | _ => .stuck
theorem ds_asg {X : Cx} {W : WX} {tg e : Expr} {m : ME} {g : MG} {vs : List Nat} {pos : Pos} (he : DE X W e m) (hg : DG X vs tg g) (hs : swapsWithSole [tg] e pos.line X.env = pure false := by rfl) (hw : swappedStores [tg] e X.env = pure none := by rfl)
    (h1 : (assignEach [tg] X.env).map (·.2) = [assign tg X.env] := by rfl) : DS X W (.Assign [tg] e pos) (mAsg g m) :=
  PS.imp (ps_asg he hg hs hw h1) fun D σ H ⟨B, Z, ρ, rel, h⟩ => opdS rel h fun v Z1 H1 r ρ1 rel1 s1 d h1 => by
    cases r with
    | ow x => exact h1.elim
    | sl x => exact h1.elim
    | fz x =>
      simp only at h1
      cases e1 : g x ρ1 with
      | none => rw [e1] at h1; exact h1.elim
      | some ρ2 =>
        rw [e1] at h1
        exact ⟨B, Z1, ρ1, x, ρ2, rel1, d, e1, fun σ' Z' H' rel' st _ => h1 σ' Z' H' rel' (s1.trans st)⟩

/-! ### x op= e -/
def mAug (i : Nat) (g : D → D → Option D) (m : ME) : MS := fun ρ => match ρ[i]? with
  | some (.fz x) => (m ρ).bind fun p => match peek p.2 p.1 with
    | some e => match g x e with
      | some r => match mk r with
        | .fz y => .ok (.nx, p.2.set i (.fz y))
        | _ => .stuck
      | none => .stuck
    | none => .stuck
  | _ => .stuck
theorem mk_fz {r y : D} (h : mk r = .fz y) : r = y ∧ ∀ {K mg Z H H' w}, NewV K mg Z H H' w r → Den K mg Z H' w y := by
  cases r <;> cases h <;> exact ⟨rfl, fun n => n.2⟩
theorem ds_aug {X : Cx} {W : WX} {i : Nat} {x : Str} {e : Expr} {m : ME} {op : Operator} {ti : TIp} {g : D → D → Option D} {pos pos' : Pos} (hN : X.N.Nodup) (hi : X.N[i]? = some x) (hx : Loc X.env.scope x) (he : DE X W e m) (ho : PIp X op ti) (hd : OpD X.K X.mg ti g)
    (hf : X.fn x = true ∨ X.env.scope.names.lookup x = some .local := by first | exact .inl rfl | exact .inr rfl | assumption) : DS X W (.AugAssign (.Name x pos') op e pos) (mAug i g m) :=
  PS.imp (ps_aug hN hi hx he ho hf) fun D σ H ⟨B, Z, ρ, rel, h⟩ => by
    unfold mAug at h
    cases e0 : ρ[i]? with
    | none => rw [e0] at h; exact h.elim
    | some s =>
      rw [e0] at h
      cases s with
      | un => exact h.elim
      | ow b y => exact h.elim
      | fz y =>
        obtain ⟨v, e1, hv⟩ := rel.fz i y e0
        refine ⟨v, e1, opdS rel h fun w Z1 H1 r ρ1 rel1 s1 d h1 => ?_⟩
        simp only at h1
        cases e2 : peek ρ1 r with
        | none => rw [e2] at h1; exact h1.elim
        | some z =>
          rw [e2] at h1
          simp only at h1
          cases e3 : g y z with
          | none => rw [e3] at h1; exact h1.elim
          | some q =>
            rw [e3] at h1
            simp only at h1
            refine hd Z1 H1 v w y z q _ rel1.dom (.inl (rel.den s1 hv)) (d.pk rel1 e2) e3 fun u H2 n => ?_
            cases e4 : mk q with
            | ow t => rw [e4] at h1; exact h1.elim
            | sl t => rw [e4] at h1; exact h1.elim
            | fz t =>
              rw [e4] at h1
              obtain ⟨_, hn⟩ := mk_fz e4
              obtain ⟨rel2, s2⟩ := rel_new rel1 n.keeps
              obtain ⟨rel3, o3⟩ := rel_set_fz (i := i) rel2 (hn n)
              exact h1 _ Z1 H2 rel3 ((s1.trans s2).own fun a o => (s1.trans s2).o a (o3 a o))

/-! ### methods that change the list or dict of a slot -/
abbrev MetD (K : PySem.W.Frag) (mg : Str → Option Value) (T : String) (r : V → List V → Hp → VK → Prop) (ty : D → Bool) (g : D → List D → Option (D × D)) : Prop :=
  (∀ Z H a c, Mut (H a) → Cont K mg Z H a c → ty c = true → tyV K T (.ref a) H) ∧
  ∀ (Z : Addr → Prop) (H : Hp) (a : Addr) (c : D) (vs : List V) (ds : List D) (c' rr : D) (Q : VK), (∀ a, Z a → H a ≠ none) → ¬ Z a → Mut (H a) → Cont K mg Z H a c → DenAll K mg Z H vs ds → g c ds = some (c', rr) →
    (∀ w ob, Mut (some ob) → Cont K mg Z (upd H a ob) a c' → Den K mg Z (upd H a ob) w rr → Q w (upd H a ob)) → r (.ref a) vs H Q
theorem den_upd {a : Addr} {ob : HO} (nz : ¬ Z a) (m : Mut (H a)) {v : V} {d : D} (h : Den K mg Z H v d) : Den K mg Z (upd H a ob) v d :=
  h.step (O := fun c => c = a) (fun c u e n => .inl (by rw [upd_ne n]; exact e)) (fun _ z => z) fun c e => by rw [e]; exact ⟨nz, m⟩
theorem dens_upd {a : Addr} {ob : HO} (nz : ¬ Z a) (m : Mut (H a)) {v : List V} {d : List D} (h : DenAll K mg Z H v d) : DenAll K mg Z (upd H a ob) v d :=
  h.step (O := fun c => c = a) (fun c u e n => .inl (by rw [upd_ne n]; exact e)) (fun _ z => z) fun c e => by rw [e]; exact ⟨nz, m⟩
def mMet (j : Nat) (ty : D → Bool) (g : D → List D → Option (D × D)) (ma : MA) : ME := fun ρ => match ρ[j]? with
  | some (.ow _ c0) => if ty c0 = true then (ma ρ).bind fun p => match frzs p.1 p.2 with
    | some (ds, ρ') => match ρ'[j]? with
      | some (.ow b c) => match g c ds with
        | some (c', r) => .ok (.fz r, ρ'.set j (.ow b c'))
        | none => .stuck
      | _ => .stuck
    | none => .stuck
    else .stuck
  | _ => .stuck
theorem met_ok {W : WX} {T : String} {j : Nat} {r : V → List V → Hp → VK → Prop} {ty : D → Bool} {g : D → List D → Option (D × D)} {ma : MA} {σ : L2.St} {H : Hp} {Q : VK} (hd : MetD K mg T r ty g) (h : tD K mg W (mMet j ty g ma) σ H Q) : tBM K T r (tVar j) (tA K mg W ma) σ H Q := by
  obtain ⟨B, Z, ρ, rel, h⟩ := h
  unfold mMet at h
  cases e0 : ρ[j]? with
  | none => rw [e0] at h; exact h.elim
  | some s =>
    rw [e0] at h
    cases s with
    | un => exact h.elim
    | fz y => exact h.elim
    | ow b0 c0 =>
      simp only at h
      obtain ⟨a, ea, nz0, m0, cc0, _⟩ := rel.ow j b0 c0 e0
      split at h
      · rename_i hty
        refine ⟨.ref a, ea, hd.1 Z H a c0 m0 cc0 hty, opds rel h fun xs Z1 H1 rs ρ1 rel1 s1 dxs h1 => ?_⟩
        simp only at h1
        cases e : frzs rs ρ1 with
        | none => rw [e] at h1; exact h1.elim
        | some p =>
          obtain ⟨ds, ρ2⟩ := p
          rw [e] at h1
          simp only at h1
          obtain ⟨Z2, rel2, s2, t⟩ := frzs_ok rel1 dxs e
          cases e2 : ρ2[j]? with
          | none => rw [e2] at h1; exact h1.elim
          | some s =>
            rw [e2] at h1
            cases s with
            | un => exact h1.elim
            | fz y => exact h1.elim
            | ow b c =>
              simp only at h1
              cases e3 : g c ds with
              | none => rw [e3] at h1; exact h1.elim
              | some q =>
                obtain ⟨c', rr⟩ := q
                rw [e3] at h1
                simp only at h1
                obtain ⟨a', ea', nz, m, cc, _⟩ := rel2.ow j b c e2
                rw [ea] at ea'; cases ea'
                refine hd.2 Z2 H1 a c xs ds c' rr Q rel2.dom nz m cc t e3 fun w ob mu hc hw => ?_
                obtain ⟨rel3, s3⟩ := rel_write rel2 e2 ea mu hc
                exact h1 w Z2 _ rel3 (s2.trans s3) hw
      · exact h.elim
def tyL : D → Bool
  | .lst _ => true
  | _ => false
theorem tyL_ok : ∀ Z H a c, Mut (H a) → Cont K mg Z H a c → tyL c = true → tyV K "list" (.ref a) H := fun Z H a c m h e => by
  cases h with
  | lst h t => exact .inl ⟨rfl, _, .inl (.inl h)⟩
  | dK _ _ _ => cases e
  | dT _ _ _ => cases e
def gAppend : D → List D → Option (D × D)
  | .lst l, [d] => if l.length < 1000000 then some (.lst (l ++ [d]), .non) else none
  | _, _ => none
def gExtend : D → List D → Option (D × D)
  | .lst l, [.lst m] => if l.length + m.length < 1000000 then some (.lst (l ++ m), .non) else none
  | _, _ => none
theorem met_append : MetD K mg "list" rAppend tyL gAppend := by
  refine ⟨tyL_ok, fun Z H a c vs ds c' rr Q dom nz m cc t e q => ?_⟩
  cases cc with
  | dK _ _ _ => cases e
  | dT _ _ _ => cases e
  | @lst _ xs l h tl =>
    cases t with
    | nil => cases e
    | @cons v vs d ds hd t2 =>
      cases t2 with
      | cons _ _ => cases e
      | nil =>
        have e : (if l.length < 1000000 then some ((.lst (l ++ [d]) : D), (.non : D)) else none) = some (c', rr) := e
        split at e
        · rename_i hl
          cases e
          refine ⟨a, xs, v, rfl, rfl, h, by rw [tl.length, sizeLine_eq]; omega, q .non _ True.intro (.lst upd_same ?_) .non⟩
          exact (dens_upd nz m tl).append (.one (den_upd nz m hd))
        · cases e
theorem met_extend : MetD K mg "list" rExtend tyL gExtend := by
  refine ⟨tyL_ok, fun Z H a c vs ds c' rr Q dom nz m cc t e q => ?_⟩
  cases cc with
  | dK _ _ _ => cases e
  | dT _ _ _ => cases e
  | @lst _ xs l h tl =>
    cases t with
    | nil => cases e
    | @cons v vs d ds hd t2 =>
      cases t2 with
      | cons _ _ => cases d <;> cases e
      | nil =>
        cases d with
        | lst mm =>
          have e : (if l.length + mm.length < 1000000 then some ((.lst (l ++ mm) : D), (.non : D)) else none) = some (c', rr) := e
          split at e
          · rename_i hl
            cases e
            obtain ⟨b, ys, rfl, hb, tb⟩ := Pk.lst (.inl hd)
            refine ⟨a, b, xs, ys, rfl, rfl, h, hb, by rw [tl.length, tb.length, sizeLine_eq]; omega, q .non _ True.intro (.lst upd_same ?_) .non⟩
            exact (dens_upd nz m tl).append (dens_upd nz m tb)
          · cases e
        | _ => cases e
theorem de_meth {X : Cx} {W : WX} {T id : String} {j : Nat} {x name : Str} {e : Expr} {es : List Expr} {r : V → List V → Hp → VK → Prop} {ty : D → Bool} {g : D → List D → Option (D × D)} {ma : MA} {opos apos cpos : Pos} (pa : PlainAttrs T) (slot : Slot T name id)
    (hty : typeOf (.builtin id) = pure (.type "method_descriptor")) (hm : MtR X id r) (hd : MetD X.K X.mg T r ty g) (ho : PE X (.Name x opos) (tVar j)) (ha : DA X W (e :: es) ma)
    (hbase : attributeBase (.Name x opos) name X.env (eval (.Name x opos) X.env) = eval (.Name x opos) X.env := by rfl)
    (hfew : ((backTo cpos (starEach (e :: es) X.env)).all (fun x => !x.1) && (backToKw cpos (keywordEach [] X.env)).all (fun x => x.1.isSome)
      && decide ((e :: es).length + ([] : List Keyword).length + (if ([] : List Keyword).isEmpty then 0 else 1) < 30)) = true := by rfl)
    (hline : (apos.endLine == cpos.line) = true := by rfl) (hs : starEach (e :: es) X.env = (false, eval e X.env) :: starEach es X.env := by rfl) (hplain : (backTo cpos (starEach es X.env)).any (·.1) = false := by rfl) :
    DE X W (.Call (.Attribute (.Name x opos) name apos) (e :: es) [] cpos) (mMet j ty g ma) :=
  PE.imp (pe_bm pa slot hty hm ho ha hbase hfew hline hs hplain) fun _ _ _ h => met_ok hd h

/-! ### while -/
def mWhileN (c : MT) (b : MS) : Nat → MS
  | 0 => fun _ => .stuck
  | n + 1 => fun ρ => (c ρ).bind fun p => if p.1 = true then (b p.2).bind fun q => match q.1 with
      | .nx => mWhileN c b n q.2
      | .ct => mWhileN c b n q.2
      | .bk => .ok (.nx, q.2)
      | .rt r => .ok (.rt r, q.2)
    else .ok (.nx, p.2)
def mWhile (n : Nat) (c : MT) (b : MS) : MS := mWhileN c b n
theorem while_ok {W : WX} {n : Nat} {c : MT} {b : MS} {D : Ends} {σ : L2.St} {H : Hp} (h : tS K mg W (mWhile n c b) D σ H) : tWhile (tT K mg W c) (tS K mg W b) D σ H := by
  obtain ⟨B, Z, ρ, rel, h⟩ := h
  refine ⟨fun m σ H => ∃ Z ρ, Rel K mg B Z H ρ σ ∧ FinS K mg W B Z H ρ σ (mWhileN c b m ρ) D, ⟨n, Z, ρ, rel, h⟩, ?_⟩
  rintro m σ H ⟨Z, ρ, rel, h⟩
  cases m with
  | zero => exact h.elim
  | succ m =>
    refine topdS rel h fun v Z1 H1 ρ1 rel1 s1 h1 => ?_
    cases v with
    | false => exact h1 σ Z1 H1 rel1 .refl
    | true =>
      rw [if_pos rfl]
      refine ⟨fun σ' H' => ∃ Z ρ, Rel K mg B Z H' ρ σ' ∧ FinS K mg W B Z H' ρ σ' (mWhileN c b m ρ) D, fun σ' H' q => ⟨m, Nat.lt_succ_self m, q⟩, B, Z1, ρ1, rel1, ?_⟩
      simp only [if_pos] at h1
      cases e : b ρ1 with
      | stuck => rw [e] at h1; exact h1
      | exc x => rw [e] at h1; exact h1
      | ok p =>
        obtain ⟨fl, ρ2⟩ := p
        rw [e] at h1
        cases fl with
        | nx => exact fun σ' Z' H' rel' st => ⟨Z', ρ2, rel', FinS.move st h1⟩
        | ct => exact fun σ' Z' H' rel' st => ⟨Z', ρ2, rel', FinS.move st h1⟩
        | bk => exact h1
        | rt r => exact h1
theorem ds_while {X : Cx} {W : WX} {c : Expr} {body : List Stmt} {mc : MT} {mb : MS} {pos : Pos} (n : Nat) (hp : PassesOwn (model X.prog X.w) X.A X.env X.xe) (hc : DT X W c mc) (hb : DB X W body mb) : DS X W (.While c body [] pos) (mWhile n mc mb) :=
  PS.imp (ps_while hp hc hb) fun _ _ _ h => while_ok h

/-! ### what is walked -/
/-- the walk's things stand, its turns give ds one after the other -/
structure Wk (K : PySem.W.Frag) (mg : Str → Option Value) (Z : Addr → Prop) (H : Hp) (O : Addr → Prop) (J : It) (ds : List D) : Prop where
  ex : ∃ (G : Hp → Prop) (Y : Nat → Hp → V → Hp → Prop), Walk J ds.length G Y ∧ (∀ Z2 H2 O2, Step Z H O Z2 H2 O2 → G H2) ∧
    ∀ i Z2 H2 O2 x H3, i < ds.length → Step Z H O Z2 H2 O2 → Y i H2 x H3 → (∀ a o, H2 a = some o → H3 a = some o) ∧ ∃ d, ds[i]? = some d ∧ Den K mg Z2 H3 x d
abbrev MI := Env → Res (List D × Env)
def tI (K : PySem.W.Frag) (mg : Str → Option Value) (W : WX) (mi : MI) : TI := fun σ H R => ∃ B Z ρ, Rel K mg B Z H ρ σ ∧ Fin K mg W (fun Z' H' ρ' J ds => Wk K mg Z' H' (Od ρ' σ) J ds) B Z H ρ σ (mi ρ) R
abbrev DI (X : Cx) (W : WX) (tg e : Expr) (mi : MI) : Prop := PI X tg e (tI X.K X.mg W mi)
def mForL (g : MG) (b : MS) : List D → MS
  | [] => fun ρ => .ok (.nx, ρ)
  | d :: ds => fun ρ => match g d ρ with
    | none => .stuck
    | some ρ1 => (b ρ1).bind fun q => match q.1 with
      | .nx => mForL g b ds q.2
      | .ct => mForL g b ds q.2
      | .bk => .ok (.nx, q.2)
      | .rt r => .ok (.rt r, q.2)
def mFor (mi : MI) (g : MG) (b : MS) : MS := fun ρ => (mi ρ).bind fun p => mForL g b p.1 p.2
theorem for_ok {W : WX} {mi : MI} {g : MG} {vs : List Nat} {b : MS} {D : Ends} {σ : L2.St} {H : Hp} (h : tS K mg W (mFor mi g b) D σ H) : tFor (tI K mg W mi) (gD K mg vs g) (tS K mg W b) D σ H := by
  obtain ⟨B, Z, ρ, rel, h⟩ := h
  refine ⟨B, Z, ρ, rel, ?_⟩
  unfold mFor at h
  cases e : mi ρ with
  | stuck => rw [e] at h; exact h
  | exc x => rw [e] at h; exact fun cls dx Z' H' st xd => h cls dx σ Z' H' st xd
  | ok p =>
    obtain ⟨ds, ρ1⟩ := p
    rw [e] at h
    rintro J Z1 H1 rel1 s1 ⟨G, Y, wk, hG, hY⟩
    have h : FinS K mg W B Z H ρ σ (mForL g b ds ρ1) D := h
    refine for_it wk (fun i σ' H' => ∃ Z' ρ', Rel K mg B Z' H' ρ' σ' ∧ Step Z1 H1 (Od ρ1 σ) Z' H' (Od ρ' σ') ∧ FinS K mg W B Z' H' ρ' σ' (mForL g b (ds.drop i) ρ') D) ⟨Z1, ρ1, rel1, .refl, FinS.move s1 h⟩
      (fun i σ' H' _ ⟨Z', ρ', _, st, _⟩ => hG Z' H' _ st) (fun i x σ' H' H3 hi ⟨Z', ρ', rel', st, h'⟩ y => ?_) fun σ' H' ⟨Z', ρ', rel', st, h'⟩ => ?_
    · obtain ⟨k, d, ed, hd⟩ := hY i Z' H' _ x H3 hi st y
      have hdrop : ds.drop i = d :: ds.drop (i + 1) := by
        have hl : i < ds.length := hi
        rw [List.drop_eq_getElem_cons hl]
        rw [List.getElem?_eq_getElem hl] at ed
        cases ed; rfl
      rw [hdrop] at h'
      obtain ⟨rel3, s3⟩ := rel_new rel' k
      simp only [mForL] at h'
      cases e1 : g d ρ' with
      | none => rw [e1] at h'; exact h'.elim
      | some ρ4 =>
        rw [e1] at h'
        refine ⟨B, Z', ρ', d, ρ4, rel3, hd, e1, fun σ5 Z5 H5 rel5 st5 _ => ⟨B, Z5, ρ4, rel5, ?_⟩⟩
        have h5 := FinS.move (s3.trans st5) h'
        have st6 := (st.trans s3).trans st5
        simp only at h5
        cases e2 : b ρ4 with
        | stuck => rw [e2] at h5; exact h5
        | exc x => rw [e2] at h5; exact h5
        | ok p =>
          obtain ⟨fl, ρ6⟩ := p
          rw [e2] at h5
          cases fl with
          | nx => exact fun σ7 Z7 H7 rel7 st7 => ⟨Z7, ρ6, rel7, st6.trans st7, FinS.move st7 h5⟩
          | ct => exact fun σ7 Z7 H7 rel7 st7 => ⟨Z7, ρ6, rel7, st6.trans st7, FinS.move st7 h5⟩
          | bk => exact h5
          | rt r => exact h5
    · have ed : ds.drop ds.length = [] := List.drop_length
      rw [ed] at h'
      exact h' σ' Z' H' rel' .refl
theorem ds_for {X : Cx} {W : WX} {tg iter : Expr} {body : List Stmt} {mi : MI} {g : MG} {vs : List Nat} {mb : MS} {pos : Pos} (hp : PassesOwn (model X.prog X.w) X.A X.env X.xe) (hc : X.calm = true) (hi : DI X W tg iter mi) (hg : DG X vs tg g) (hb : DB X W body mb)
    (hs : ∀ x, foldedSetIterable iter X.env x = pure x := by intro _; rfl) : DS X W (.For tg iter body [] pos) (mFor mi g mb) :=
  PS.imp (ps_for hp hc hi hg hb hs) fun _ _ _ h => for_ok h
end
end DL
end
section
namespace DL
open PySem PySem.Spec PyProof.Rows L2
section
variable {K : PySem.W.Frag} {mg : Str → Option Value} {Z Z' Z0 Z1 Z2 : Addr → Prop} {H H' H0 H1 H2 H3 : Hp} {O O' O1 O2 : Addr → Prop} {ρ ρ' ρ0 ρ1 ρ2 : Env} {σ σ' σ0 σ1 σ2 : L2.St} {B : Addr}

/-! ### walks over values -/
theorem PI.or {X : Cx} {tg e : Expr} {t1 t2 : TI} (h1 : PI X tg e t1) (h2 : PI X tg e t2) : PI X tg e (fun σ H R => t1 σ H R ∨ t2 σ H R) := ⟨fun pins s σ H R I q => q.elim (h1.run pins s σ H R I) (h2.run pins s σ H R I)⟩
/-- the thing that comes may be locked -/
theorem pe_lockR {X : Cx} {e : Expr} {t : TE} (h : PE X e t) : PE X e (fun σ H Q => t σ H fun x H1 => Q x H1 ∨ ∃ d u, x = .ref d ∧ H1 d = some u ∧ Mut (some u) ∧ ∀ od, Q x (upd H1 d (.frz od u))) := by
  refine ⟨fun pins s σ H Q I q => ?_⟩
  refine thn (h.run pins s σ H _ I q) fun v s1 ⟨x, H1, I1, r, q1⟩ => ?_
  rcases q1 with q1 | ⟨d, u, ex, hd, mu, q1⟩
  · exact ⟨x, H1, I1, r, q1⟩
  · obtain ⟨od, I2⟩ := I1.lock hd mu
    exact ⟨x, _, I2, r, q1 od⟩
theorem rel_lock {a : Addr} {u : HO} {od : Obj} (rel : Rel K mg B Z H ρ σ) (za : Z a) (ha : H a = some u) (hu : isDct u = true) : Rel K mg B Z (upd H a (.frz od u)) ρ σ ∧ Step Z H (Od ρ σ) Z (upd H a (.frz od u)) (Od ρ σ) := by
  have kp : Kept H (upd H a (.frz od u)) (fun _ => False) := fun b o e _ => by
    by_cases hb : b = a
    · subst hb
      rw [ha] at e; cases e
      exact .inr ⟨hu, od, upd_same⟩
    · exact .inl (by rw [upd_ne hb]; exact e)
  have pp : ∀ b, H b ≠ none → upd H a (.frz od u) b ≠ none := fun b h => by
    by_cases hb : b = a
    · rw [hb, upd_same]; simp
    · rw [upd_ne hb]; exact h
  refine ⟨⟨rel.len, fun b z => pp b (rel.dom b z), fun i d e => ?_, fun i b d e => ?_, rel.inj⟩, ⟨fun b o e _ nz => ?_, fun b o e _ => kp b o e (fun z => z), fun _ z => z, fun _ z => .inl z, fun _ z => .inr z, pp, fun _ z => .inl z⟩⟩
  · obtain ⟨v, e', h⟩ := rel.fz i d e
    exact ⟨v, e', h.step kp (fun _ z => z) fun _ z => z.elim⟩
  · obtain ⟨c, e', nz, m, h, hb⟩ := rel.ow i b d e
    have ne : c ≠ a := fun q => nz (q ▸ za)
    exact ⟨c, e', nz, by rw [upd_ne ne]; exact m, h.step kp (fun _ z => z) (fun _ z => z.elim) (fun z => z), hb⟩
  · rw [upd_ne (fun q : b = a => nz (by rw [q]; exact za))]; exact e

def itemsOf : D → Option (List D)
  | .lst l => some l
  | .tup l => some l
  | .dct l => some (l.map Prod.fst)
  | _ => none
def mItV (m : ME) : MI := fun ρ => (m ρ).bind fun p => match frz1 p.1 p.2 with
  | some (d, ρ') => match itemsOf d with
    | some ds => .ok (ds, ρ')
    | none => .stuck
  | none => .stuck
theorem wk_list {a : Addr} {xs : List V} {ds : List D} (rel : Rel K mg B Z H ρ σ) (za : Z a) (ha : H a = some (.lst xs)) (t : DenAll K mg Z H xs ds) : Wk K mg Z H (Od ρ σ) (Itl K a) ds := by
  refine ⟨fun H => SqL K H a xs, _, by rw [← t.length]; exact walk_list, fun Z2 H2 O2 st => .inl (.inl (st.k2.lst ha fun o => (rel.owned a o).1 za)), ?_⟩
  rintro i Z2 H2 O2 x H3 hi st ⟨rfl, y⟩
  obtain ⟨d, e, hd⟩ := DenAll.get' t y
  exact ⟨fun _ _ e => e, d, e, rel.den st hd⟩
theorem SqT.step {a : Addr} {xs : List V} (rel : Rel K mg B Z H ρ σ) (st : Step Z H (Od ρ σ) Z2 H2 O2) (h : SqT K H a xs) : SqT K H2 a xs := by
  rcases h with h | h
  · refine .inl (st.k2.rd h fun o => ?_)
    have m := (rel.owned a o).2
    rcases h with h | ⟨o, h⟩ <;> (rw [h] at m; exact m)
  · exact .inr h
theorem wk_tup {a : Addr} {xs : List V} {ds : List D} (rel : Rel K mg B Z H ρ σ) (ha : SqT K H a xs) (t : DenAll K mg Z H xs ds) : Wk K mg Z H (Od ρ σ) (Itt K a) ds := by
  refine ⟨fun H => SqT K H a xs, _, by rw [← t.length]; exact walk_tup, fun Z2 H2 O2 st => SqT.step rel st ha, ?_⟩
  rintro i Z2 H2 O2 x H3 hi st ⟨rfl, y⟩
  obtain ⟨d, e, hd⟩ := DenAll.get' t y
  exact ⟨fun _ _ e => e, d, e, rel.den st hd⟩
theorem den_key (k : Key) : Den K mg Z H (kV k) (keyD k) := by cases k with
  | inl i => exact .int i
  | inr x => exact .str x
theorem den_keys : ∀ (k : List Key), DenAll K mg Z H (k.map kV) (k.map keyD)
  | [] => .nil
  | k :: r => .cons (den_key k) (den_keys r)
theorem wk_keys {a : Addr} {kvs : List (Key × V)} {od : Obj} {l : List (D × D)} (rel : Rel K mg B Z H ρ σ) (za : Z a) (ha : H a = some (.frz od (.dK kvs))) (hl : l.map Prod.fst = kvs.map (fun p => keyD p.1)) : Wk K mg Z H (Od ρ σ) (Itk a od kvs) (l.map Prod.fst) := by
  have hn : (l.map Prod.fst).length = kvs.length := by rw [hl, List.length_map]
  refine ⟨_, _, by rw [hn]; exact walk_keys, fun Z2 H2 O2 st => ?_, ?_⟩
  · rcases st.k2 a _ ha (fun o => (rel.owned a o).1 za) with q | ⟨q, _⟩
    · exact q
    · cases q
  · rintro i Z2 H2 O2 x H3 hi st ⟨rfl, k, v, e, rfl⟩
    exact ⟨fun _ _ e => e, keyD k, by rw [hl, List.getElem?_map, e]; rfl, den_key k⟩
theorem wk_keysT {a : Addr} {kvs : List (List Key × V)} {od : Obj} {l : List (D × D)} (rel : Rel K mg B Z H ρ σ) (za : Z a) (ha : H a = some (.frz od (.dT kvs))) (hl : l.map Prod.fst = kvs.map (fun p => .tup (p.1.map keyD))) : Wk K mg Z H (Od ρ σ) (Itkt a od kvs) (l.map Prod.fst) := by
  have hn : (l.map Prod.fst).length = kvs.length := by rw [hl, List.length_map]
  refine ⟨_, _, by rw [hn]; exact walk_keysT, fun Z2 H2 O2 st => ?_, ?_⟩
  · rcases st.k2 a _ ha (fun o => (rel.owned a o).1 za) with q | ⟨q, _⟩
    · exact q
    · cases q
  · rintro i Z2 H2 O2 x H3 hi st ⟨rfl, k, v, q, e, rfl, hq⟩
    exact ⟨fun _ _ e => e, .tup (k.map keyD), by rw [hl, List.getElem?_map, e]; rfl, .tup hq (den_keys k)⟩
theorem di_v {X : Cx} {W : WX} {tg e : Expr} {m : ME} (he : DE X W e m) : DI X W tg e (mItV m) :=
  PI.imp (PI.or (pi_list he) (PI.or (pi_tup he) (pi_keys (pe_lockR he)))) fun σ H R ⟨B, Z, ρ, rel, h⟩ => by
    -- what comes
    cases e0 : m ρ with
    | stuck => unfold mItV at h; rw [e0] at h; exact h.elim
    | exc x =>
      unfold mItV at h; rw [e0] at h
      exact .inl ⟨B, Z, ρ, rel, by rw [e0]; exact h⟩
    | ok p =>
      obtain ⟨r, ρ1⟩ := p
      cases e1 : frz1 r ρ1 with
      | none => unfold mItV at h; rw [e0] at h; simp only [Res.bind, e1] at h; exact h.elim
      | some q =>
        obtain ⟨d, ρ2⟩ := q
        have key : ∀ {Q1 : VK}, (∀ v Z2 H1, Rel X.K X.mg B Z2 H1 ρ2 σ → Step Z H (Od ρ σ) Z2 H1 (Od ρ2 σ) → Den X.K X.mg Z2 H1 v d → Q1 v H1) → tD X.K X.mg W m σ H Q1 := fun {Q1} hq => by
          refine ⟨B, Z, ρ, rel, ?_⟩
          rw [e0]
          intro v Z1 H1 rel1 st dd
          have pd : ∃ Z1', Rel X.K X.mg B Z1' H1 ρ1 σ ∧ Step Z H (Od ρ σ) Z1' H1 (Od ρ1 σ) ∧ PDen X.K X.mg Z1' H1 σ v r := by
            cases r with
            | fz x => exact ⟨Z1, rel1, st, dd⟩
            | sl i => exact ⟨Z1, rel1, st, dd⟩
            | ow x =>
              obtain ⟨a, ev, hn, nz, m', no, c⟩ := dd
              refine ⟨fun b => Z1 b ∨ b = a, rel1.frz (mut_some m') no, step_frz (a := a) (.inl hn) (mut_some m') st, ?_⟩
              subst ev
              exact .mut (.inr rfl) (c.zmono fun _ z => .inl z)
          obtain ⟨Z1', rel1', st', pd⟩ := pd
          obtain ⟨Z2, rel2, s2, hd⟩ := frz1_ok rel1' pd e1
          exact hq v Z2 H1 rel2 (st'.trans s2) hd
        unfold mItV at h
        rw [e0] at h
        simp only [Res.bind, e1] at h
        cases d with
        | lst ds =>
          refine .inl (key fun v Z2 H1 rel2 st hd => ?_)
          cases hd with
          | «mut» za c =>
            cases c with
            | lst ha t => exact ⟨_, rfl, ⟨_, .inl (.inl ha)⟩, h (Itl X.K _) Z2 H1 rel2 st (wk_list rel2 za ha t)⟩
        | tup ds =>
          refine .inr (.inl (key fun v Z2 H1 rel2 st hd => ?_))
          obtain ⟨a, xs, rfl, hs, t⟩ := Pk.tup (.inl hd)
          exact ⟨a, rfl, ⟨xs, hs⟩, h (Itt X.K a) Z2 H1 rel2 st (wk_tup rel2 hs t)⟩
        | dct l =>
          refine .inr (.inr (key fun v Z2 H1 rel2 st hd => ?_))
          cases hd with
          | «mut» za c =>
            cases c with
            | dK ha hl t =>
              rcases ha with ha | ⟨od, ha⟩
              · refine .inr ⟨_, _, rfl, ha, True.intro, fun od => ?_⟩
                obtain ⟨rel3, s3⟩ := rel_lock (od := od) rel2 za ha rfl
                exact ⟨_, od, rfl, .inl ⟨_, upd_same, h _ Z2 _ rel3 (st.trans s3) (wk_keys rel3 za upd_same hl)⟩⟩
              · exact .inl ⟨_, od, rfl, .inl ⟨_, ha, h _ Z2 _ rel2 st (wk_keys rel2 za ha hl)⟩⟩
            | dT ha hl t =>
              rcases ha with ha | ⟨od, ha⟩
              · refine .inr ⟨_, _, rfl, ha, True.intro, fun od => ?_⟩
                obtain ⟨rel3, s3⟩ := rel_lock (od := od) rel2 za ha rfl
                exact ⟨_, od, rfl, .inr ⟨_, upd_same, h _ Z2 _ rel3 (st.trans s3) (wk_keysT rel3 za upd_same hl)⟩⟩
              · exact .inl ⟨_, od, rfl, .inr ⟨_, ha, h _ Z2 _ rel2 st (wk_keysT rel2 za ha hl)⟩⟩
        | _ => exact h.elim

/-! ### ranges -/
def rngD (lo : Int) (n : Nat) : List D := (List.range n).map fun (i : Nat) => .int (lo + (i : Int))
theorem wk_range {lo : Int} {n : Nat} : Wk K mg Z H O (Itr lo n) (rngD lo n) := by
  have hn : (rngD lo n).length = n := by unfold rngD; rw [List.length_map, List.length_range]
  refine ⟨_, _, by rw [hn]; exact walk_range, fun _ _ _ _ => True.intro, ?_⟩
  · rintro i Z2 H2 O2 x H3 hi st ⟨rfl, rfl⟩
    rw [hn] at hi
    refine ⟨fun _ _ e => e, .int (lo + (i : Int)), ?_, .int _⟩
    unfold rngD
    rw [List.getElem?_map, List.getElem?_range hi]
    rfl
def rngOf1 : List D → Option (List D)
  | [.int j] => if -1000000 ≤ j ∧ j ≤ 1000000 then some (rngD 0 j.toNat) else none
  | _ => none
def rngOf2 : List D → Option (List D)
  | [.int i, .int j] => if -1000000 ≤ i ∧ i ≤ 1000000 ∧ -1000000 ≤ j ∧ j ≤ 1000000 then some (rngD i (j - i).toNat) else none
  | _ => none
def mItR (g : List D → Option (List D)) (ma : MA) : MI := fun ρ => (ma ρ).bind fun p => match peeks p.2 p.1 with
  | some ds => match g ds with
    | some l => .ok (l, p.2)
    | none => .stuck
  | none => .stuck
theorem Pks.one {v : List V} {i : Int} (h : Pks K mg Z H v [.int i]) : v = [.int i] := by
  cases h with
  | cons h t => cases t; rw [h.int]
theorem Pks.two {v : List V} {i j : Int} (h : Pks K mg Z H v [.int i, .int j]) : v = [.int i, .int j] := by
  cases h with
  | cons h t =>
    cases t with
    | cons h2 t => cases t; rw [h.int, h2.int]
theorem di_r1 {X : Cx} {W : WX} {tg a : Expr} {p pos : Pos} {ma : MA} (hg : Gl X "range") (hm : X.mg "range" = none) (ha : DA X W [a] ma) (hs : starEach [a] X.env = [(false, eval a X.env)] := by rfl) : DI X W tg (.Call (.Name "range" p) [a] [] pos) (mItR rngOf1 ma) :=
  PI.imp (pi_range1 hg hm ha hs) fun σ H R ⟨B, Z, ρ, rel, h⟩ => opds rel h fun xs Z1 H1 rs ρ1 rel1 s1 dxs h1 => by
    simp only at h1
    cases e : peeks ρ1 rs with
    | none => rw [e] at h1; exact h1.elim
    | some ds =>
      rw [e] at h1
      have pk := dxs.pks rel1 e
      simp only at h1
      cases e2 : rngOf1 ds with
      | none => rw [e2] at h1; exact h1.elim
      | some l =>
        rw [e2] at h1
        unfold rngOf1 at e2
        split at e2
        · split at e2
          · rename_i j hj
            cases e2
            have ex := pk.one
            subst ex
            exact ⟨j, rfl, by omega, by omega, h1 _ Z1 H1 rel1 .refl wk_range⟩
          · cases e2
        · cases e2
theorem di_r2 {X : Cx} {W : WX} {tg a b : Expr} {p pos : Pos} {ma : MA} (hg : Gl X "range") (hm : X.mg "range" = none) (ha : DA X W [a, b] ma) (hs : starEach [a, b] X.env = [(false, eval a X.env), (false, eval b X.env)] := by rfl) (hs2 : starEach [b] X.env = [(false, eval b X.env)] := by rfl) :
    DI X W tg (.Call (.Name "range" p) [a, b] [] pos) (mItR rngOf2 ma) :=
  PI.imp (pi_range2 hg hm ha hs hs2) fun σ H R ⟨B, Z, ρ, rel, h⟩ => opds rel h fun xs Z1 H1 rs ρ1 rel1 s1 dxs h1 => by
    simp only at h1
    cases e : peeks ρ1 rs with
    | none => rw [e] at h1; exact h1.elim
    | some ds =>
      rw [e] at h1
      have pk := dxs.pks rel1 e
      simp only at h1
      cases e2 : rngOf2 ds with
      | none => rw [e2] at h1; exact h1.elim
      | some l =>
        rw [e2] at h1
        unfold rngOf2 at e2
        split at e2
        · split at e2
          · rename_i i j hj
            cases e2
            have ex := pk.two
            subst ex
            exact ⟨i, j, rfl, by omega, h1 _ Z1 H1 rel1 .refl wk_range⟩
          · cases e2
        · cases e2

/-! ### zip of two lists, of two tuples -/
def zipOf : List D → Option (List D)
  | [.lst a, .lst b] => some ((a.zip b).map fun p => .tup [p.1, p.2])
  | [.tup a, .tup b] => some ((a.zip b).map fun p => .tup [p.1, p.2])
  | _ => none
/-- walked things are changed by no one -/
def mItF (g : List D → Option (List D)) (ma : MA) : MI := fun ρ => (ma ρ).bind fun p => match frzs p.1 p.2 with
  | some (ds, ρ') => match g ds with
    | some l => .ok (l, ρ')
    | none => .stuck
  | none => .stuck
theorem ypair {xs ys : List V} {as bs : List D} {i : Nat} {x : V} (t1 : DenAll K mg Z H xs as) (t2 : DenAll K mg Z H ys bs) (y : YPair (fun i => xs[i]?) (fun i => ys[i]?) i H x H3) :
    (∀ a o, H a = some o → H3 a = some o) ∧ ∃ d, ((as.zip bs).map fun p => D.tup [p.1, p.2])[i]? = some d ∧ Den K mg Z H3 x d := by
  obtain ⟨T, x1, y1, rfl, hT, rfl, e1, e2⟩ := y
  obtain ⟨d1, f1, h1⟩ := t1.get' e1
  obtain ⟨d2, f2, h2⟩ := t2.get' e2
  have k := upd_keeps (o := .tup [x1, y1]) hT
  refine ⟨k, .tup [d1, d2], ?_, .tup upd_same (.cons (h1.grown k) (.cons (h2.grown k) .nil))⟩
  rw [List.getElem?_map, List.getElem?_zip_eq_some (z := (d1, d2)) |>.mpr ⟨f1, f2⟩]
  rfl
theorem walk_zipT {a b : Addr} {xs ys : List V} {n : Nat} (hn : n = min xs.length ys.length) : Walk (RZ.ItzT K a b) n (fun H => SqT K H a xs ∧ SqT K H b ys) (YPair (fun i => xs[i]?) (fun i => ys[i]?)) := by
  subst hn
  refine ⟨fun i _ hi q => ?_, fun _ q => ⟨xs, ys, q.1, q.2, by omega⟩, fun i H v H' _ q y => ?_⟩
  · have h1 : i < xs.length := by omega
    have h2 : i < ys.length := by omega
    exact ⟨xs, ys, xs[i], ys[i], q.1, q.2, by simp [h1], by simp [h2]⟩
  · obtain ⟨T, x, z, h1, h2, h3, h4, h5⟩ := y
    exact ⟨T, x, z, h1, h2, h3, h4 xs q.1, h5 ys q.2⟩
theorem di_zip {X : Cx} {W : WX} {e e2 : Expr} {p pos tpos : Pos} {elts : List Expr} {kk : Nat} {ma : MA} (hg : Gl X "zip") (hm : X.mg "zip" = none) (ha : DA X W [e, e2] ma)
    (hs : starEach [e, e2] X.env = (false, eval e X.env) :: starEach [e2] X.env := by rfl) (hpl : (backTo pos (starEach [e2] X.env)).any (·.1) = false := by rfl) : DI X W (.Tuple elts kk tpos) (.Call (.Name "zip" p) [e, e2] [] pos) (mItF zipOf ma) :=
  PI.imp (RZ.pi_zipA hg hm ha hs hpl) fun σ H R ⟨B, Z, ρ, rel, h⟩ => opds rel h fun xs Z1 H1 rs ρ1 rel1 s1 dxs h1 => by
    simp only at h1
    cases e : frzs rs ρ1 with
    | none => rw [e] at h1; exact h1.elim
    | some q =>
      obtain ⟨ds, ρ2⟩ := q
      rw [e] at h1
      simp only at h1
      obtain ⟨Z2, rel2, s2, t⟩ := frzs_ok rel1 dxs e
      cases e2 : zipOf ds with
      | none => rw [e2] at h1; exact h1.elim
      | some l =>
        rw [e2] at h1
        have hl : ∀ (a b : List D), ((a.zip b).map fun p => D.tup [p.1, p.2]).length = min a.length b.length := fun a b => by rw [List.length_map, List.length_zip]
        unfold zipOf at e2
        split at e2
        · cases e2
          cases t with
          | cons d1 t =>
            cases t with
            | cons d2 t =>
              cases t
              cases d1 with
              | «mut» za c1 =>
                cases c1 with
                | lst ha' ta =>
                  cases d2 with
                  | «mut» zb c2 =>
                    cases c2 with
                    | lst hb' tb =>
                      refine ⟨_, _, _, _, rfl, .inl ⟨.inl (.inl ha'), .inl (.inl hb'), h1 _ Z2 H1 rel2 s2 ⟨_, _, walk_zip (by rw [hl, ta.length, tb.length]), fun Z3 H3 O3 st => ⟨.inl (.inl (st.k2.lst ha' fun o => (rel2.owned _ o).1 za)), .inl (.inl (st.k2.lst hb' fun o => (rel2.owned _ o).1 zb))⟩, ?_⟩⟩⟩
                      intro i Z3 H3 O3 x H4 hi st y
                      exact ypair (rel2.dens st ta) (rel2.dens st tb) y
        · cases e2
          cases t with
          | cons d1 t =>
            cases t with
            | cons d2 t =>
              cases t
              obtain ⟨a, xs', rfl, ha', ta⟩ := Pk.tup (.inl d1)
              obtain ⟨b, ys', rfl, hb', tb⟩ := Pk.tup (.inl d2)
              refine ⟨_, _, _, _, rfl, .inr ⟨ha', hb', h1 _ Z2 H1 rel2 s2 ⟨_, _, walk_zipT (by rw [hl, ta.length, tb.length]), fun Z3 H3 O3 st => ⟨SqT.step rel2 st ha', SqT.step rel2 st hb'⟩, ?_⟩⟩⟩
              intro i Z3 H3 O3 x H4 hi st y
              exact ypair (rel2.dens st ta) (rel2.dens st tb) y
        · cases e2

/-! ### comprehensions -/
abbrev W0 : WX := fun _ _ _ _ => False
def wipeE (ρ : Env) : List Nat → Env
  | [] => ρ
  | v :: vs => (wipeE ρ vs).set v .un
theorem wipeE_len (ρ : Env) : ∀ vs : List Nat, (wipeE ρ vs).length = ρ.length
  | [] => rfl
  | v :: vs => by unfold wipeE; rw [List.length_set, wipeE_len ρ vs]
theorem wipeE_out {i : Nat} : ∀ {vs : List Nat}, i ∉ vs → (wipeE ρ vs)[i]? = ρ[i]?
  | [], _ => rfl
  | v :: vs, h => by
    unfold wipeE
    rw [List.getElem?_set_ne (fun e => h (by rw [e]; simp))]
    exact wipeE_out fun q => h (List.mem_cons_of_mem _ q)
theorem wipeE_in {i : Nat} {s : Sl} : ∀ {vs : List Nat}, i ∈ vs → (wipeE ρ vs)[i]? = some s → s = .un
  | [], h, _ => by cases h
  | v :: vs, h, e => by
    unfold wipeE at e
    by_cases hv : v = i
    · subst hv
      by_cases hl : v < (wipeE ρ vs).length
      · rw [List.getElem?_set_self hl] at e; cases e; rfl
      · rw [List.getElem?_eq_none (by simpa using hl)] at e; cases e
    · rw [List.getElem?_set_ne hv] at e
      rcases List.mem_cons.mp h with h | h
      · exact absurd h.symm hv
      · exact wipeE_in h e
theorem wipe_out {i : Nat} : ∀ {vs : List Nat}, i ∉ vs → (wipe σ vs)[i]? = σ[i]?
  | [], _ => rfl
  | v :: vs, h => by
    unfold wipe
    rw [List.getElem?_set_ne (fun e => h (by rw [e]; simp))]
    exact wipe_out fun q => h (List.mem_cons_of_mem _ q)
theorem wipe_in {i : Nat} : ∀ {vs : List Nat}, i ∈ vs → (wipe σ vs)[i]? = if i < σ.length then some none else none
  | [], h => by cases h
  | v :: vs, h => by
    unfold wipe
    by_cases hv : v = i
    · subst hv
      by_cases hl : v < σ.length
      · rw [List.getElem?_set_self (by rw [wipe_length]; exact hl), if_pos hl]
      · rw [List.getElem?_eq_none (by rw [List.length_set, wipe_length]; omega), if_neg hl]
    · rw [List.getElem?_set_ne hv]
      rcases List.mem_cons.mp h with h | h
      · exact absurd h.symm hv
      · exact wipe_in h
theorem wipe_but {vs : List Nat} (b : But vs (wipe σ vs) σ2) : wipe σ2 vs = wipe σ vs := by
  have hl : σ2.length = σ.length := by rw [b.1, wipe_length]
  refine List.ext_getElem? fun i => ?_
  by_cases h : i ∈ vs
  · rw [wipe_in h, wipe_in h, hl]
  · rw [wipe_out h, b.2 i h]
/-- the block's own slots are forgotten -/
theorem rel_wipe {vs : List Nat} (rel : Rel K mg B Z H ρ σ) : Rel K mg B Z H (wipeE ρ vs) (wipe σ vs) ∧ ∀ a, Od (wipeE ρ vs) (wipe σ vs) a → Od ρ σ a := by
  have l : ∀ {i s}, (wipeE ρ vs)[i]? = some s → s ≠ .un → i ∉ vs ∧ ρ[i]? = some s := fun {i s} e n => by
    by_cases h : i ∈ vs
    · exact absurd (wipeE_in h e) n
    · exact ⟨h, by rw [← wipeE_out h]; exact e⟩
  refine ⟨⟨by rw [wipeE_len, wipe_length]; exact rel.len, rel.dom, fun i d e => ?_, fun i b d e => ?_, fun i j b c d e a e1 e2 e3 e4 => ?_⟩, fun a ⟨i, b, d, e, e'⟩ => ?_⟩
  · obtain ⟨h, e'⟩ := l e (by simp)
    rw [wipe_out h]
    exact rel.fz i d e'
  · obtain ⟨h, e'⟩ := l e (by simp)
    rw [wipe_out h]
    exact rel.ow i b d e'
  · obtain ⟨h1, e1'⟩ := l e1 (by simp)
    obtain ⟨h2, e2'⟩ := l e2 (by simp)
    rw [wipe_out h1] at e3
    rw [wipe_out h2] at e4
    exact rel.inj i j b c d e a e1' e2' e3 e4
  · obtain ⟨h, e1⟩ := l e (by simp)
    rw [wipe_out h] at e'
    exact ⟨i, b, d, e1, e'⟩
/-- none of the block's own slots is owned -/
def okOwn (ρ : Env) (vs : List Nat) : Bool := vs.all fun i => match ρ[i]? with
  | some (.ow _ _) => false
  | _ => true
theorem Od.wipe {vs : List Nat} {a : Addr} (ok : okOwn ρ vs = true) (h : Od ρ σ a) : Od (wipeE ρ vs) (wipe σ vs) a := by
  obtain ⟨i, b, d, e, e'⟩ := h
  have hn : i ∉ vs := fun hi => by
    have := List.all_eq_true.mp ok i hi
    rw [e] at this
    cases this
  exact ⟨i, b, d, by rw [wipeE_out hn]; exact e, by rw [wipe_out hn]; exact e'⟩
/-- behind the block: its own slots as they were, the others as the block left them -/
def back1 (ρ1 ρ : Env) (i : Nat) : Env := match ρ1[i]? with
  | some s => ρ.set i s
  | none => ρ
def back (ρ1 ρ2 : Env) (vs : List Nat) : Env := vs.foldl (back1 ρ1) ρ2
theorem back1_len {v : Nat} : (back1 ρ1 ρ2 v).length = ρ2.length := by
  unfold back1
  split
  · rw [List.length_set]
  · rfl
theorem back_len : ∀ {vs : List Nat} {ρ2 : Env}, (back ρ1 ρ2 vs).length = ρ2.length
  | [], _ => rfl
  | v :: vs, ρ2 => by
    show (back ρ1 (back1 ρ1 ρ2 v) vs).length = _
    rw [back_len, back1_len]
theorem back_out {i : Nat} : ∀ {vs : List Nat} {ρ2 : Env}, i ∉ vs → (back ρ1 ρ2 vs)[i]? = ρ2[i]?
  | [], _, _ => rfl
  | v :: vs, ρ2, h => by
    show (back ρ1 (back1 ρ1 ρ2 v) vs)[i]? = _
    rw [back_out fun q => h (List.mem_cons_of_mem _ q)]
    unfold back1
    split
    · rw [List.getElem?_set_ne (fun e => h (by rw [e]; simp))]
    · rfl
theorem back_in {i : Nat} : ∀ {vs : List Nat} {ρ2 : Env}, ρ1.length = ρ2.length → i ∈ vs → (back ρ1 ρ2 vs)[i]? = ρ1[i]?
  | [], _, _, h => by cases h
  | v :: vs, ρ2, hl, h => by
    show (back ρ1 (back1 ρ1 ρ2 v) vs)[i]? = _
    have hl' : ρ1.length = (back1 ρ1 ρ2 v).length := by rw [back1_len]; exact hl
    by_cases hv : i ∈ vs
    · exact back_in hl' hv
    · rw [back_out hv]
      rcases List.mem_cons.mp h with h | h
      · subst h
        unfold back1
        cases e : ρ1[i]? with
        | none =>
          simp only
          have := List.getElem?_eq_none_iff.mp e
          exact List.getElem?_eq_none_iff.mpr (by omega)
        | some s =>
          simp only
          have := (List.getElem?_eq_some_iff.mp e).1
          rw [List.getElem?_set_self (by omega)]
      · exact absurd h hv
theorem rel_back {vs : List Nat} (rel1 : Rel K mg B Z1 H1 ρ1 σ) (ok : okOwn ρ1 vs = true) (rel2 : Rel K mg B Z2 H2 ρ2 (wipe σ vs)) (st : Step Z1 H1 (Od (wipeE ρ1 vs) (wipe σ vs)) Z2 H2 (Od ρ2 (wipe σ vs))) :
    Rel K mg B Z2 H2 (back ρ1 ρ2 vs) σ ∧ Step Z1 H1 (Od ρ1 σ) Z2 H2 (Od (back ρ1 ρ2 vs) σ) ∧ ∀ a, Od (back ρ1 ρ2 vs) σ a → Od ρ2 (wipe σ vs) a := by
  have hl : ρ1.length = ρ2.length := by rw [rel1.len, rel2.len, wipe_length]
  have own : ∀ {i b d}, (back ρ1 ρ2 vs)[i]? = some (Sl.ow b d) → i ∉ vs ∧ ρ2[i]? = some (.ow b d) := fun {i b d} e => by
    by_cases h : i ∈ vs
    · rw [back_in hl h] at e
      have := List.all_eq_true.mp ok i h
      rw [e] at this
      cases this
    · exact ⟨h, by rw [← back_out (ρ1 := ρ1) h]; exact e⟩
  have ho : ∀ a, Od (wipeE ρ1 vs) (wipe σ vs) a → Od ρ1 σ a := (rel_wipe rel1).2
  have sub : ∀ a, Od (back ρ1 ρ2 vs) σ a → Od ρ2 (wipe σ vs) a := fun a ⟨i, b, d, e, e'⟩ => by
    obtain ⟨h, e1⟩ := own e
    exact ⟨i, b, d, e1, by rw [wipe_out h]; exact e'⟩
  have st' : Step Z1 H1 (Od ρ1 σ) Z2 H2 (Od ρ2 (wipe σ vs)) := ⟨fun a o e n nz => st.k1 a o e (fun q => n (ho a q)) nz, fun a o e n => st.k2 a o e (fun q => n (ho a q)), st.z, fun a z => (st.n a z).elim .inl fun q => q.elim (fun q => .inr (.inl q)) fun q => .inr (.inr (ho a q)), fun a z => (st.o a z).elim .inl fun q => .inr (ho a q), st.p, st.d⟩
  refine ⟨⟨by rw [back_len]; rw [← hl]; exact rel1.len, rel2.dom, fun i d e => ?_, fun i b d e => ?_, fun i j b c d e a e1 e2 e3 e4 => ?_⟩, st'.own fun a q => st'.o a (sub a q), sub⟩
  · by_cases h : i ∈ vs
    · rw [back_in hl h] at e
      obtain ⟨v, e', hv⟩ := rel1.fz i d e
      exact ⟨v, e', hv.step st.k2 st.z fun a q => rel1.owned a (ho a q)⟩
    · rw [back_out h] at e
      obtain ⟨v, e', hv⟩ := rel2.fz i d e
      rw [wipe_out h] at e'
      exact ⟨v, e', hv⟩
  · obtain ⟨h, e'⟩ := own e
    have := rel2.ow i b d e'
    rwa [wipe_out h] at this
  · obtain ⟨h1, e1'⟩ := own e1
    obtain ⟨h2, e2'⟩ := own e2
    exact rel2.inj i j b c d e a e1' e2' (by rw [wipe_out h1]; exact e3) (by rw [wipe_out h2]; exact e4)
/-- in a block nothing is raised -/
def noX {α : Type} : Res α → Res α
  | .exc _ => .stuck
  | r => r
def mLcL (vs : List Nat) (g : MG) (mt : MT) (me : ME) : List D → Env → Res (List D × Env)
  | [], ρ => .ok ([], ρ)
  | d :: ds, ρ => match g d ρ with
    | none => .stuck
    | some ρ1 => (noX (mt ρ1)).bind fun p => if p.1 = true then (noX (me p.2)).bind fun q => match frz1 q.1 q.2 with
        | some (y, ρ2) => (mLcL vs g mt me ds (wipeE ρ2 vs)).bind fun r => .ok (y :: r.1, r.2)
        | none => .stuck
      else mLcL vs g mt me ds (wipeE p.2 vs)
def mLc (vs : List Nat) (mi : MI) (g : MG) (mt : MT) (me : ME) : ME := fun ρ => (mi ρ).bind fun p =>
  if okOwn p.2 vs = true ∧ p.1.length ≤ 1000000 then (mLcL vs g mt me p.1 (wipeE p.2 vs)).bind fun r => .ok (.ow (.lst r.1), back p.2 r.2 vs) else .stuck
def mYes : MT := fun ρ => .ok (true, ρ)
abbrev DPT (X : Cx) (W : WX) (ifs : List Expr) (m : MT) : Prop := PTs X ifs (tT X.K X.mg W m)
theorem PTs.imp {X : Cx} {e : List Expr} {t t' : TT} (h : PTs X e t) (hi : ∀ σ H Q, t' σ H Q → t σ H Q) : PTs X e t' := ⟨fun pins s σ H Q I q => h.run pins s σ H Q I (hi _ _ _ q)⟩
theorem dpt_nil {X : Cx} {W : WX} : DPT X W [] mYes := PTs.imp pts_nil fun σ H Q ⟨B, Z, ρ, rel, h⟩ => h true Z H rel .refl rfl
theorem dpt_one {X : Cx} {W : WX} {c : Expr} {m : MT} (h : DT X W c m) : DPT X W [c] m := pts_one h
/-- a far thing changes -/
theorem rel_far {a : Addr} {ob : HO} (rel : Rel K mg B Z H ρ σ) (nz : ¬ Z a) (no : ¬ Od ρ σ a) (m : Mut (H a)) : Rel K mg B Z (upd H a ob) ρ σ := by
  refine ⟨rel.len, fun b z => ?_, fun i d e => ?_, fun i b d e => ?_, rel.inj⟩
  · rw [upd_ne (fun q : b = a => nz (by rw [← q]; exact z))]; exact rel.dom b z
  · obtain ⟨v, e', h⟩ := rel.fz i d e
    exact ⟨v, e', den_upd nz m h⟩
  · obtain ⟨c, e', nzc, mc, hc, hb⟩ := rel.ow i b d e
    have ne : c ≠ a := fun q => no (q ▸ ⟨i, b, d, e, e'⟩)
    exact ⟨c, e', nzc, by rw [upd_ne ne]; exact mc, hc.step (O := fun c => c = a) (fun c u e n => .inl (by rw [upd_ne n]; exact e)) (fun _ z => z) (fun c e => by rw [e]; exact ⟨nz, m⟩) ne, hb⟩
theorem step_far {a : Addr} {ob : HO} (st : Step Z1 H1 O1 Z H O) (h : H1 a = none) : Step Z1 H1 O1 Z (upd H a ob) O where
  k1 := fun b o e n nz => by rw [upd_ne (ne_of_none e h)]; exact st.k1 b o e n nz
  k2 := fun b o e n => by rw [upd_ne (ne_of_none e h)]; exact st.k2 b o e n
  z := st.z
  n := st.n
  o := st.o
  p := fun b e => by
    by_cases q : b = a
    · rw [q, upd_same]; simp
    · rw [upd_ne q]; exact st.p b e
  d := fun b z => (st.d b z).elim .inl fun e => .inr (by
    by_cases q : b = a
    · rw [q, upd_same]; simp
    · rw [upd_ne q]; exact e)
end
end DL
end
section
namespace DL
open PySem PySem.Spec PyProof.Rows L2
section
variable {K : PySem.W.Frag} {mg : Str → Option Value} {Z Z' Z0 Z1 Z2 : Addr → Prop} {H H' H0 H1 H2 H3 : Hp} {O O' O1 O2 : Addr → Prop} {ρ ρ' ρ0 ρ1 ρ2 : Env} {σ σ' σ0 σ1 σ2 : L2.St} {B : Addr}

theorem bind_bind {α β γ : Type} (r : Res α) (f : α → Res β) (g : β → Res γ) : (r.bind f).bind g = r.bind fun a => (f a).bind g := by cases r <;> rfl
/-- a result that is frozen -/
theorem frz_raw {v : V} {r : R} {d : D} {Hs : Hp} (hs : ∀ a, Hs a = none → H0 a = none ∨ False) (rel : Rel K mg B Z H ρ σ) (st : Step Z0 H0 O Z H (Od ρ σ)) (h : RDen K mg Hs Z H ρ σ v r) (e : frz1 r ρ = some (d, ρ')) :
    ∃ Z', Rel K mg B Z' H ρ' σ ∧ Step Z0 H0 O Z' H (Od ρ' σ) ∧ Den K mg Z' H v d := by
  have pd : ∃ Z1, Rel K mg B Z1 H ρ σ ∧ Step Z0 H0 O Z1 H (Od ρ σ) ∧ PDen K mg Z1 H σ v r := by
    cases r with
    | fz x => exact ⟨Z, rel, st, h⟩
    | sl i => exact ⟨Z, rel, st, h⟩
    | ow x =>
      obtain ⟨a, ev, hn, nz, m, no, c⟩ := h
      refine ⟨fun b => Z b ∨ b = a, rel.frz (mut_some m) no, step_frz (a := a) (.inl ((hs a hn).elim (fun q => q) fun q => q.elim)) (mut_some m) st, ?_⟩
      subst ev
      exact .mut (.inr rfl) (c.zmono fun _ z => .inl z)
  obtain ⟨Z1, rel1, st1, pd⟩ := pd
  obtain ⟨Z2, rel2, s2, hd⟩ := frz1_ok rel1 pd e
  exact ⟨Z2, rel2, st1.trans s2, hd⟩
theorem none_back (st : Step Z H O Z1 H1 O1) {a : Addr} (h : H1 a = none) : H a = none := by
  cases e : H a with
  | none => rfl
  | some o => exact absurd h (st.p a (by rw [e]; simp))
theorem But.mono {vs ws : List Nat} (b : But vs σ σ') (h : ∀ i ∈ vs, i ∈ ws) : But ws σ σ' := ⟨b.1, fun i n => b.2 i fun q => n (h i q)⟩

/-- a thing D that stands beside: kept by a step -/
theorem far_kept {D : Addr} {o : HO} (st : Step Z H O Z1 H1 O1) (hD : H D = some o) (nz : ¬ Z D) (no : ¬ O D) : H1 D = some o ∧ ¬ Z1 D ∧ ¬ O1 D := by
  have nz1 : ¬ Z1 D := fun z => (st.n D z).elim nz fun q => q.elim (fun q => by rw [q] at hD; cases hD) no
  exact ⟨st.k1 D o hD no nz1, nz1, fun z => (st.o D z).elim (fun q => by rw [q] at hD; cases hD) no⟩

theorem lc_ok {W : WX} {vs vsT : List Nat} {mi : MI} {g : MG} {mt : MT} {me : ME} {σ : L2.St} {H : Hp} {Q : VK} (hsub : ∀ i ∈ vsT, i ∈ vs) (h : tD K mg W (mLc vs mi g mt me) σ H Q) :
    tLc (tI K mg W mi) (gD K mg vsT g) (tT K mg W0 mt) (tD K mg W0 me) vs σ H Q := by
  obtain ⟨B, Z, ρ, rel, h⟩ := h
  refine ⟨B, Z, ρ, rel, ?_⟩
  unfold mLc at h
  cases e : mi ρ with
  | stuck => rw [e] at h; exact h
  | exc x => rw [e] at h; exact h
  | ok p =>
    obtain ⟨ds, ρ1⟩ := p
    rw [e] at h
    simp only [Res.bind] at h
    rintro J Z1 H1 rel1 s1 ⟨G, Y, wk, hG, hY⟩ D hD
    split at h
    · rename_i hok
      obtain ⟨hown, hlen⟩ := hok
      obtain ⟨relw, ow⟩ := rel_wipe (vs := vs) rel1
      have nzD : ¬ Z1 D := fun z => rel1.dom D z hD
      have noD : ¬ Od ρ1 σ D := fun o => mut_some (rel1.owned D o).2 hD
      have noW : ¬ Od (wipeE ρ1 vs) (wipe σ vs) D := fun o => noD (ow D o)
      refine lc_it wk (fun i H' => ∃ Z' ρ' acc out, Rel K mg B Z' H' ρ' (wipe σ vs) ∧ Step Z1 H1 (Od (wipeE ρ1 vs) (wipe σ vs)) Z' H' (Od ρ' (wipe σ vs)) ∧ H' D = some (.lst acc) ∧ DenAll K mg Z' H' acc out ∧ acc.length ≤ i ∧ ¬ Z' D ∧ ¬ Od ρ' (wipe σ vs) D ∧
          Fin K mg W (fun Z' H' ρ' v r => RDen K mg H Z' H' ρ' σ v r) B Z H ρ σ ((mLcL vs g mt me (ds.drop i) ρ').bind fun r => .ok (.ow (.lst (out ++ r.1)), back ρ1 r.2 vs)) Q)
        ⟨Z1, wipeE ρ1 vs, [], [], ?_, ?_, upd_same, .nil, Nat.le_refl _, nzD, noW, h⟩ (fun i H' _ ⟨Z', ρ', acc, out, rel', st', _⟩ => hG Z' H' (Od ρ' (wipe σ vs)) ?_) (fun i x H' H3 hi ⟨Z', ρ', acc, out, rel', st', hacc, hden, hal, nz', no', h'⟩ y => ?_) fun H' ⟨Z', ρ', acc, out, rel', st', hacc, hden, hal, nz', no', h'⟩ => ?_
      · exact (rel_new relw (upd_keeps hD)).1
      · exact (rel_new relw (upd_keeps hD)).2
      · -- the walk's things stand
        exact ⟨fun a o e n nz => st'.k1 a o e (fun q => n (ow a q)) nz, fun a o e n => st'.k2 a o e (fun q => n (ow a q)), st'.z, fun a z => (st'.n a z).elim .inl fun q => q.elim (fun q => .inr (.inl q)) fun q => .inr (.inr (ow a q)), fun a z => (st'.o a z).elim .inl fun q => .inr (ow a q), st'.p, st'.d⟩
      · -- a turn
        obtain ⟨k, d, ed, hd⟩ := hY i Z' H' (Od ρ' (wipe σ vs)) x H3 hi ⟨fun a o e n nz => st'.k1 a o e (fun q => n (ow a q)) nz, fun a o e n => st'.k2 a o e (fun q => n (ow a q)), st'.z, fun a z => (st'.n a z).elim .inl fun q => q.elim (fun q => .inr (.inl q)) fun q => .inr (.inr (ow a q)), fun a z => (st'.o a z).elim .inl fun q => .inr (ow a q), st'.p, st'.d⟩ y
        have hdrop : ds.drop i = d :: ds.drop (i + 1) := by
          have hl : i < ds.length := hi
          rw [List.drop_eq_getElem_cons hl]
          rw [List.getElem?_eq_getElem hl] at ed
          cases ed; rfl
        rw [hdrop] at h'
        obtain ⟨rel3, s3⟩ := rel_new rel' k
        simp only [mLcL] at h'
        cases e1 : g d ρ' with
        | none => rw [e1] at h'; exact h'.elim
        | some ρ4 =>
          rw [e1] at h'
          refine ⟨B, Z', ρ', d, ρ4, rel3, hd, e1, fun σ5 Z5 H5 rel5 st5 bu => ?_⟩
          have hw : wipe σ5 vs = wipe σ vs := wipe_but (bu.mono hsub)
          refine ⟨hw, B, Z5, ρ4, rel5, ?_⟩
          simp only at h'
          cases e2 : mt ρ4 with
          | stuck => rw [e2] at h'; exact h'.elim
          | exc x => rw [e2] at h'; exact h'.elim
          | ok p =>
            obtain ⟨b, ρ6⟩ := p
            rw [e2] at h'
            simp only [noX, Res.bind] at h'
            intro v Z7 H7 rel7 st7 dv
            subst dv
            have s7 : Step Z' H' (Od ρ' (wipe σ vs)) Z7 H7 (Od ρ6 σ5) := (s3.trans st5).trans st7
            cases v with
            | false =>
              rw [if_neg (by simp)] at h' ⊢
              obtain ⟨k7, nz7, no7⟩ := far_kept s7 hacc nz' no'
              obtain ⟨relw7, ow7⟩ := rel_wipe (vs := vs) rel7
              rw [hw] at relw7 ow7
              exact ⟨Z7, wipeE ρ6 vs, acc, out, relw7, (st'.trans s7).own fun a q => (st'.trans s7).o a (ow7 a q), k7, rel'.dens s7 hden, by omega, nz7, fun q => no7 (ow7 D q), h'⟩
            | true =>
              rw [if_pos rfl] at h' ⊢
              refine ⟨B, Z7, ρ6, rel7, ?_⟩
              cases e3 : me ρ6 with
              | stuck => rw [e3] at h'; exact h'.elim
              | exc x => rw [e3] at h'; exact h'.elim
              | ok p =>
                obtain ⟨r, ρ8⟩ := p
                rw [e3] at h'
                simp only [noX, Res.bind] at h'
                intro u Z9 H9 rel9 st9 rd
                cases e4 : frz1 r ρ8 with
                | none => rw [e4] at h'; exact h'.elim
                | some q =>
                  obtain ⟨yd, ρ10⟩ := q
                  rw [e4] at h'
                  simp only at h'
                  have s9 := s7.trans st9
                  obtain ⟨Z10, rel10, s10, hy⟩ := frz_raw (fun a q => .inl (none_back s7 q)) rel9 s9 rd e4
                  obtain ⟨k10, nz10, no10⟩ := far_kept s10 hacc nz' no'
                  obtain ⟨relw10, ow10⟩ := rel_wipe (vs := vs) rel10
                  rw [hw] at relw10 ow10
                  have m10 : Mut (H9 D) := by rw [k10]; exact True.intro
                  refine ⟨acc, k10, by rw [sizeLine_eq]; have := hi; omega, Z10, wipeE ρ10 vs, acc ++ [u], out ++ [yd], rel_far relw10 nz10 (fun q => no10 (ow10 D q)) m10, step_far ((st'.trans s10).own fun a q => (st'.trans s10).o a (ow10 a q)) hD, upd_same, ?_, by rw [List.length_append, List.length_singleton]; omega, nz10, fun q => no10 (ow10 D q), ?_⟩
                  · exact (dens_upd nz10 m10 (rel'.dens s10 hden)).append (.one (den_upd nz10 m10 hy))
                  · have eq : ∀ (t : Res (List DL.D × Env)), (t.bind fun r => Res.ok (yd :: r.1, r.2)).bind (fun r => Res.ok (R.ow (.lst (out ++ r.1)), back ρ1 r.2 vs)) = t.bind fun r => Res.ok (R.ow (.lst ((out ++ [yd]) ++ r.1)), back ρ1 r.2 vs) := fun t => by
                      rw [bind_bind]
                      congr 1
                      funext r
                      simp only [Res.bind, List.append_assoc, List.singleton_append]
                    rw [← eq]
                    exact h'
      · have ed : ds.drop ds.length = [] := List.drop_length
        rw [ed] at h'
        obtain ⟨relb, sb, ob⟩ := rel_back rel1 hown rel' st'
        refine h' (.ref D) Z' H' relb (s1.trans sb) ⟨D, rfl, none_back s1 hD, nz', by rw [hacc]; exact True.intro, fun q => no' (ob D q), ?_⟩
        rw [List.append_nil]
        exact .lst hacc hden
    · exact h.elim
theorem de_lc {X : Cx} {W : WX} {elt tg iter : Expr} {ifs : List Expr} {scope : Scope} {own : List (Str × Nat)} {vsT : List Nat} {pos : Pos} {mi : MI} {g : MG} {mt : MT} {me : ME} (hc : X.calm = true) (hN : X.N.Nodup) (hi : DI X W tg iter mi) (ok : BlkOk X.N X.env.scope scope own)
    (hg : ∀ (s : Shared) (H : Hp) (C : Addr) (cl : List (Str × Addr)) (fp : List Addr), DG (X.blk s H scope (compEnvC scope cl C X.env) fp) vsT tg g) (hsub : ∀ i ∈ vsT, i ∈ own.map (·.2))
    (ht : ∀ (s : Shared) (H : Hp) (C : Addr) (cl : List (Str × Addr)) (fp : List Addr), DPT (X.blk s H scope (compEnvC scope cl C X.env) fp) W0 ifs mt)
    (he : ∀ (s : Shared) (H : Hp) (C : Addr) (cl : List (Str × Addr)) (fp : List Addr), DE (X.blk s H scope (compEnvC scope cl C X.env) fp) W0 elt me) (hs : ∀ x, foldedSetIterable iter X.env x = pure x := by intro _; rfl) :
    DE X W (.ListComp elt [⟨tg, iter, ifs, 0⟩] scope pos) (mLc (own.map (·.2)) mi g mt me) :=
  PE.imp (pe_lc hc hN hi ok hg ht he hs) fun _ _ _ h => lc_ok hsub h
end
end DL
end
section
namespace DL
open PySem PySem.Spec PyProof.Rows L2
section
variable {K : PySem.W.Frag} {mg : Str → Option Value} {Z Z' Z0 Z1 Z2 : Addr → Prop} {H H' H0 H1 H2 H3 : Hp} {O O' O1 O2 : Addr → Prop} {ρ ρ' ρ0 ρ1 ρ2 : Env} {σ σ' σ0 σ1 σ2 : L2.St} {B : Addr}

/-! ### defs -/
def entry (n : Nat) (ds : List D) : Env := ds.map Sl.fz ++ List.replicate (n - ds.length) .un
def runF (n : Nat) (body : MS) : List D → Res RF := fun ds => match body (entry n ds) with
  | .ok (.rt r, _) => .ok r
  | .ok (.nx, _) => .ok (.fz .non)
  | .exc x => .exc x
  | _ => .stuck
theorem entry_fz {n : Nat} {ds : List D} {i : Nat} {s : Sl} (e : (entry n ds)[i]? = some s) : (∃ d, s = .fz d ∧ ds[i]? = some d) ∨ s = .un := by
  unfold entry at e
  by_cases h : i < (ds.map Sl.fz).length
  · rw [List.getElem?_append_left h, List.getElem?_map] at e
    cases q : ds[i]? with
    | none => rw [q] at e; cases e
    | some d => rw [q] at e; cases e; exact .inl ⟨d, rfl, rfl⟩
  · rw [List.getElem?_append_right (by omega)] at e
    have := List.mem_of_getElem? e
    exact .inr (List.eq_of_mem_replicate this)
theorem entry_own {n : Nat} {ds : List D} {a : Addr} (h : Od (entry n ds) σ a) : False := by
  obtain ⟨i, b, d, e, _⟩ := h
  rcases entry_fz e with ⟨_, q, _⟩ | q <;> cases q
theorem rel_entry {N : List Str} {vs : List V} {ds : List D} (dom : ∀ a, Z a → H a ≠ none) (t : DenAll K mg Z H vs ds) : Rel K mg B Z H (entry N.length ds) (L2.start N vs) := by
  refine ⟨?_, dom, fun i d e => ?_, fun i b d e => ?_, fun i j b c d e a e1 => ?_⟩
  · unfold entry L2.start
    rw [List.length_append, List.length_append, List.length_map, List.length_map, List.length_replicate, List.length_replicate, t.length]
  · rcases entry_fz e with ⟨d', q, e'⟩ | q
    · cases q
      obtain ⟨v, ev, hv⟩ := t.get e'
      refine ⟨v, ?_, hv⟩
      unfold L2.start
      have hi : i < (vs.map some).length := by rw [List.length_map]; exact (List.getElem?_eq_some_iff.mp ev).1
      rw [List.getElem?_append_left hi, List.getElem?_map, ev]
      rfl
    · cases q
  · rcases entry_fz e with ⟨_, q, _⟩ | q <;> cases q
  · rcases entry_fz e1 with ⟨_, q, _⟩ | q <;> cases q
theorem Step.cong (s : Step Z H O Z1 H1 O1) (h : ∀ a, O a → O2 a) (h' : ∀ a, O' a → H a = none ∨ O2 a) : Step Z H O2 Z1 H1 O' :=
  ⟨fun a o e n nz => s.k1 a o e (fun q => n (h a q)) nz, fun a o e n => s.k2 a o e fun q => n (h a q), s.z, fun a z => (s.n a z).elim .inl fun q => q.elim (fun q => .inr (.inl q)) fun q => .inr (.inr (h a q)), h', s.p, s.d⟩
/-- a def's body as a function -/
theorem runF_ok {N : List Str} {n : Nat} {body : MS} {vs : List V} {Q : VK} {E : XK} (h : spF K mg n (runF N.length body) vs H Q E) : tS K mg (fun cls d _ H => E cls d H) body { nx := fun _ H' => Q .non H', rt := Q } (L2.start N vs) H := by
  obtain ⟨Z, ds, dom, t, h⟩ := h
  refine ⟨0, Z, entry N.length ds, rel_entry dom t, ?_⟩
  unfold lenIs at h
  by_cases hl : ds.length = n
  · rw [if_pos hl] at h
    unfold runF at h
    have st0 : ∀ {Z' H' ρ' σ'}, Step Z H (Od (entry N.length ds) (L2.start N vs)) Z' H' (Od ρ' σ') → Step Z H O0 Z' H' O0 := fun s => s.cong (fun a q => entry_own q) fun a q => q.elim
    cases e : body (entry N.length ds) with
    | stuck => rw [e] at h; exact h
    | exc x =>
      rw [e] at h
      exact fun cls dx σ' Z' H' st xd => h cls dx Z' H' (st0 st) xd
    | ok p =>
      obtain ⟨fl, ρ'⟩ := p
      rw [e] at h
      cases fl with
      | nx => exact fun σ' Z' H' rel' st => h .non Z' H' (st0 st) .non
      | bk => exact h.elim
      | ct => exact h.elim
      | rt r =>
        intro σ' v Z' H' rel' st rd
        refine h v Z' H' (st0 st) ?_
        cases r with
        | fz d => exact rd
        | ow d =>
          obtain ⟨a, ev, n, nz, m, _, c⟩ := rd
          exact ⟨a, ev, n.elim (fun q => q) fun q => (entry_own q).elim, nz, m, c⟩
  · rw [if_neg hl] at h
    exact h.elim
section
variable {P : Program} {w : World} {base : Heap}
/-- a def by its body, where no guard stands around -/
theorem fnG_of {name qual : Str} {params : Arguments} {body : List Stmt} {scope : Scope} {dV kV doc pm cdv ct oc : Value} {an od : Option Addr} {osl : Array (Option Value)} {f : Addr} {k : Nat} {N ps : List Str} {sp : Sp}
    (lk : K.lookup f = some ⟨oc, od, .func (PySem.W.fnOf name qual params body scope dV kV doc pm an cdv ct), osl⟩) (hcd : PySem.W.codeIn K cdv qual = true) (S : FnScope N ps scope) (len : ∀ vs H Q E, sp vs H Q E → vs.length = ps.length)
    (hbody : ∀ (A : Around) (outer : List PySem.Env) (s : Shared) (H : Hp) (vs : List V) (Q : VK) (E : XK), Room k (A.deeper (envOfC qual scope s.heap.objs.size f cdv)) → (A.deeper (envOfC qual scope s.heap.objs.size f cdv)).guards = some [] → sp vs H Q E →
      ∃ t, PSs (cxOf (L2.CX P w) P w K mg base N qual scope f cdv A outer s H E) body t ∧ t { nx := fun _ H' => Q .non H', rt := Q } (start N vs) H) :
    FnG P w K mg base (k + 1) f (PySem.W.fnOf name qual params body scope dV kV doc pm an cdv ct) ps sp where
  len := len
  run := by
    intro A outer s H args us vs Q E hr hg e0 hb r hsp
    have hl := len _ _ _ _ hsp
    have kept : ∀ b o, base.get? b = some o → s.heap.get? b = some o := fun b o e => (e0.bs b o e).1
    have KX : K.In s.heap := e0.mod.kin.keeps kept
    have lim := e0.mod.nolimit.keeps kept
    refine codeAny_call_function hr.depth (KX _ _ lk) rfl S.co S.gen rfl (PySem.W.codeRec_of KX hcd) (hb _ _ _ _ ?_)
    refine wpAny_newFunctionEnv_cells S.kind (fun y hy => ?_) fun env he s1 x => ?_
    · rcases S.par y.1 (List.of_mem_zip hy).1 with q | q
      · exact Or.inl q
      · exact Or.inr ⟨q, PySem.W.cellsFrom_some _ _ _ (Or.inl q)⟩
    · subst he
      obtain ⟨t, ht, hq⟩ := hbody A outer s H vs Q E (hr.deeper _) hg hsp
      have I := inv_start (CX := L2.CX P w) (P := P) (w := w) (K := K) (mg := mg) (base := base) (cd := cdv) (f := f) (qual := qual) (E := E) S hr.hd e0 hl r x
      refine ⟨lim.keeps x.toInCall.keep, codeAny_func (wpAny_mono (ht.run [] s1 (start N vs) H _ I hq) ?_ fun _ _ q => q)⟩
      intro fl s' hs
      cases fl with
      | ret u =>
        obtain ⟨v, _, H', J, rv, q⟩ := hs
        exact ⟨v, H', J.os, J.bare, J.base, J.hok, rv, q⟩
      | next =>
        obtain ⟨_, H', J, q⟩ := hs
        exact ⟨.non, H', J.os, J.bare, J.base, J.hok, rfl, q⟩
      | brk => obtain ⟨_, _, _, q⟩ := hs; exact q.elim
      | cont => obtain ⟨_, _, _, q⟩ := hs; exact q.elim
theorem fn_ok {x qual : Str} {st : Stmt} {f : Addr} {fd : FuncData} {N ps : List Str} {k n : Nat} {body : MS} (F : Fun K x qual st f fd) (S : FnScope N ps (defScope st)) (hn : ps.length = n)
    (hb : ∀ (cdv : Value) (A : Around) (outer : List PySem.Env) (s : Shared) (H : Hp) (E : XK), Room k (A.deeper (envOfC qual (defScope st) s.heap.objs.size f cdv)) → (A.deeper (envOfC qual (defScope st) s.heap.objs.size f cdv)).guards = some [] →
      DB (cxOf (L2.CX P w) P w K mg base N qual (defScope st) f cdv A outer s H E) (fun cls d _ H => E cls d H) (defBody st) body) : FnG P w K mg base (k + 1) f fd ps (spF K mg n (runF N.length body)) := by
  obtain ⟨oc, od, kV, doc, pm, an, cdv, ct, osl, rfl, lk, hcd⟩ := F.ex
  exact fnG_of lk hcd S (fun vs H Q E h => (spF_len h).trans hn.symm) fun A outer s H vs Q E hr hg h => ⟨_, hb cdv A outer s H E hr hg, runF_ok h⟩
end
end
end DL
end
section
namespace DL
open PySem PySem.Spec PyProof.Rows L2
section
variable {K : PySem.W.Frag} {mg : Str → Option Value} {Z Z' Z0 Z1 Z2 : Addr → Prop} {H H' H0 H1 H2 H3 : Hp} {O O' O1 O2 : Addr → Prop} {ρ ρ' ρ0 ρ1 ρ2 : Env} {σ σ' σ0 σ1 σ2 : L2.St} {B : Addr}

/-! ### operations told by what they do on data -/
def rG (K : PySem.W.Frag) (mg : Str → Option Value) (g : D → D → Option D) : R2 := fun x y H Q => ∃ (Z : Addr → Prop) (d e r : D), (∀ a, Z a → H a ≠ none) ∧ Pk K mg Z H x d ∧ Pk K mg Z H y e ∧ g d e = some r ∧ ∀ w H', NewV K mg Z H H' w r → Q w H'
theorem opd_rG (g : D → D → Option D) : OpD K mg (rG K mg g) g := fun Z H x y d e r Q dom p1 p2 h q => ⟨Z, d, e, r, dom, p1, p2, h, q⟩
def rU1 (K : PySem.W.Frag) (mg : Str → Option Value) (g : D → Option D) : V → Hp → VK → Prop := fun x H Q => ∃ (Z : Addr → Prop) (d r : D), (∀ a, Z a → H a ≠ none) ∧ Pk K mg Z H x d ∧ g d = some r ∧ ∀ w H', NewV K mg Z H H' w r → Q w H'
theorem und_rU1 (g : D → Option D) : UnD K mg (rU1 K mg g) g := fun Z H x d r Q dom p1 h q => ⟨Z, d, r, dom, p1, h, q⟩
def rC (K : PySem.W.Frag) (mg : Str → Option Value) (g : List D → Option D) : List V → Hp → VK → Prop := fun xs H Q => ∃ (Z : Addr → Prop) (ds : List D) (r : D), (∀ a, Z a → H a ≠ none) ∧ Pks K mg Z H xs ds ∧ g ds = some r ∧ ∀ w H', NewV K mg Z H H' w r → Q w H'
theorem calld_rC (g : List D → Option D) : CallD K mg (rC K mg g) g := fun Z H xs ds r Q dom p h q => ⟨Z, ds, r, dom, p, h, q⟩
/-- no new thing -/
theorem NewV.pure {v : V} {d : D} (h : Den K mg Z H v d) (hd : mk d = .fz d := by rfl) : NewV K mg Z H H v d := by
  cases d <;> first
    | exact ⟨fun _ _ e => e, h⟩
    | cases hd
theorem newLst' {p : Addr} {xs : List V} {ds : List D} (h : H p = none) (t : DenAll K mg Z H xs ds) : NewV K mg Z H (upd H p (.lst xs)) (.ref p) (.lst ds) := newLst h t

/-! ### ints -/
theorem opG {X : Cx} {f : Value → Value → Sem Value} {g : D → D → Option D} (h : ∀ (Z : Addr → Prop) (H : Hp) (x y : V) (d e r : D) (Q : VK), (∀ a, Z a → H a ≠ none) → Pk X.K X.mg Z H x d → Pk X.K X.mg Z H y e → g d e = some r → (∀ w H', NewV X.K X.mg Z H H' w r → Q w H') →
    ∃ r2 : R2, OpR X f r2 ∧ r2 x y H Q) : OpR X f (rG X.K X.mg g) := by
  intro pins s σ H x y v u Q I rx ry ⟨Z, d, e, r, dom, p1, p2, hg, q⟩
  obtain ⟨r2, ho, h2⟩ := h Z H x y d e r Q dom p1 p2 hg q
  exact ho pins s σ H x y v u Q I rx ry h2
def gI (f : Int → Int → Option D) : D → D → Option D
  | .int i, .int j => f i j
  | _, _ => none
theorem gI_inv {f : Int → Int → Option D} {d e r : D} (h : gI f d e = some r) : ∃ i j, d = .int i ∧ e = .int j ∧ f i j = some r := by
  cases d <;> cases e <;> first
    | exact ⟨_, _, rfl, rfl, h⟩
    | exact nomatch h
theorem opGI {X : Cx} {f : Value → Value → Sem Value} {g : Int → Int → Option D} {C : Int → Int → Prop} {k : Int → Int → V} (ho : OpR X f (rI C k)) (hc : ∀ i j r, g i j = some r → C i j ∧ ∀ Z H, NewV X.K X.mg Z H H (k i j) r) : OpR X f (rG X.K X.mg (gI g)) :=
  opG fun Z H x y d e r Q dom p1 p2 h q => by
    obtain ⟨i, j, rfl, rfl, h⟩ := gI_inv h
    obtain ⟨c, n⟩ := hc i j r h
    exact ⟨_, ho, i, j, p1.int, p2.int, c, q _ _ (n Z H)⟩
theorem opGI0 {X : Cx} {f : Value → Value → Sem Value} {g : Int → Int → Option D} {k : Int → Int → V} (ho : OpR X f (rI0 k)) (hc : ∀ i j r, g i j = some r → ∀ Z H, NewV X.K X.mg Z H H (k i j) r) : OpR X f (rG X.K X.mg (gI g)) :=
  opG fun Z H x y d e r Q dom p1 p2 h q => by
    obtain ⟨i, j, rfl, rfl, h⟩ := gI_inv h
    exact ⟨_, ho, i, j, p1.int, p2.int, q _ _ (hc i j r h Z H)⟩
theorem newI {i : Int} {r : D} (h : some (D.int i) = some r) : NewV K mg Z H H (.int i) r := by cases h; exact .pure (.int i)
theorem newB {i : Bool} {r : D} (h : some (D.bl i) = some r) : NewV K mg Z H H (.bl i) r := by cases h; exact .pure (.bl i)
def gSub : D → D → Option D := gI fun i j => some (.int (i - j))
def gFdiv : D → D → Option D := gI fun i j => if 0 < j ∧ j.natAbs.log2 < 9000 then some (.int (i / j)) else none
def gMod : D → D → Option D := gI fun i j => if j ≠ 0 then some (.int (i.fmod j)) else none
def gPow : D → D → Option D := gI fun i j => if 0 ≤ j ∧ j ≤ 1000000 ∧ i.natAbs < 18446744073709551616 then some (.int (i ^ j.toNat)) else none
def gShl : D → D → Option D := gI fun i j => if 0 ≤ j ∧ j ≤ 1000000 ∧ i.natAbs < 18446744073709551616 then some (.int (i * 2 ^ j.toNat)) else none
def gShr : D → D → Option D := gI fun i j => if 0 ≤ j then some (.int (i / 2 ^ j.toNat)) else none
def gBand : D → D → Option D := gI fun i j => some (.int (Builtin.bitAnd i j))
def gBor : D → D → Option D := gI fun i j => some (.int (Builtin.bitOr i j))
def gBxor : D → D → Option D := gI fun i j => some (.int (Builtin.bitXor i j))
theorem p64 : (2 : Nat) ^ 64 = 18446744073709551616 := by decide
theorem opG_sub {X : Cx} : OpR X (binaryOp .Sub) (rG X.K X.mg gSub) := opGI0 op_sub fun _ _ _ h _ _ => newI h
theorem opG_fdiv {X : Cx} : OpR X (binaryOp .FloorDiv) (rG X.K X.mg gFdiv) := opGI op_fdivW fun i j r h => by
  split at h
  · rename_i hc; exact ⟨hc, fun _ _ => newI h⟩
  · cases h
theorem opG_mod {X : Cx} : OpR X (binaryOp .Mod) (rG X.K X.mg gMod) := opGI op_modN fun i j r h => by
  split at h
  · rename_i hc; exact ⟨hc, fun _ _ => newI h⟩
  · cases h
theorem opG_pow {X : Cx} : OpR X (binaryOp .Pow) (rG X.K X.mg gPow) := opGI op_pow fun i j r h => by
  split at h
  · rename_i hc; exact ⟨⟨hc.1, hc.2.1, by rw [p64]; exact hc.2.2⟩, fun _ _ => newI h⟩
  · cases h
theorem opG_shl {X : Cx} : OpR X (binaryOp .LShift) (rG X.K X.mg gShl) := opGI op_shl fun i j r h => by
  split at h
  · rename_i hc; exact ⟨⟨hc.1, hc.2.1, by rw [p64]; exact hc.2.2⟩, fun _ _ => newI h⟩
  · cases h
theorem opG_shr {X : Cx} : OpR X (binaryOp .RShift) (rG X.K X.mg gShr) := opGI op_shr fun i j r h => by
  split at h
  · rename_i hc; exact ⟨hc, fun _ _ => newI h⟩
  · cases h
theorem opG_band {X : Cx} : OpR X (binaryOp .BitAnd) (rG X.K X.mg gBand) := opGI0 op_and fun _ _ _ h _ _ => newI h
theorem opG_bor {X : Cx} : OpR X (binaryOp .BitOr) (rG X.K X.mg gBor) := opGI0 op_or fun _ _ _ h _ _ => newI h
theorem opG_bxor {X : Cx} : OpR X (binaryOp .BitXor) (rG X.K X.mg gBxor) := opGI0 op_xor fun _ _ _ h _ _ => newI h
def gIadd : D → D → Option D := gI fun i j => some (.int (i + j))
theorem iopG_add {X : Cx} : OpR X (inplaceOp .Add) (rG X.K X.mg gIadd) := opGI0 iop_add fun _ _ _ h _ _ => newI h
theorem iopG_sub {X : Cx} : OpR X (inplaceOp .Sub) (rG X.K X.mg gSub) := opGI0 iop_sub fun _ _ _ h _ _ => newI h
theorem iopG_band {X : Cx} : OpR X (inplaceOp .BitAnd) (rG X.K X.mg gBand) := opGI0 iop_and fun _ _ _ h _ _ => newI h
theorem iopG_bor {X : Cx} : OpR X (inplaceOp .BitOr) (rG X.K X.mg gBor) := opGI0 iop_or fun _ _ _ h _ _ => newI h
theorem iopG_bxor {X : Cx} : OpR X (inplaceOp .BitXor) (rG X.K X.mg gBxor) := opGI0 iop_xor fun _ _ _ h _ _ => newI h
def gLe : D → D → Option D := gI fun i j => some (.bl (decide (i ≤ j)))
def gGt : D → D → Option D := gI fun i j => some (.bl (decide (j < i)))
def gGe : D → D → Option D := gI fun i j => some (.bl (decide (j ≤ i)))
theorem opG_le {X : Cx} : OpR X (compareOp .LtE) (rG X.K X.mg gLe) := opGI0 op_le fun _ _ _ h _ _ => newB h
theorem opG_gt {X : Cx} : OpR X (compareOp .Gt) (rG X.K X.mg gGt) := opGI0 op_gt fun _ _ _ h _ _ => newB h
theorem opG_ge {X : Cx} : OpR X (compareOp .GtE) (rG X.K X.mg gGe) := opGI0 op_ge fun _ _ _ h _ _ => newB h

/-! ### + and * -/
def gAdd : D → D → Option D
  | .int i, .int j => some (.int (i + j))
  | .lst a, .lst b => if a.length + b.length ≤ 1000000 then some (.lst (a ++ b)) else none
  | .tup a, .tup b => if a.length + b.length ≤ 1000000 then some (.tup (a ++ b)) else none
  | _, _ => none
theorem opG_add {X : Cx} : OpR X (binaryOp .Add) (rG X.K X.mg gAdd) := opG fun Z H x y d e r Q dom p1 p2 h q => by
  cases d with
  | int i =>
    cases e with
    | int j => exact ⟨_, op_add, i, j, p1.int, p2.int, q _ _ (newI h)⟩
    | _ => exact nomatch h
  | lst a =>
    cases e with
    | lst b =>
      have h : (if a.length + b.length ≤ 1000000 then some (D.lst (a ++ b)) else none) = some r := h
      split at h
      · rename_i hl
        cases h
        obtain ⟨l, xs, rfl, h1, t1⟩ := p1.lst
        obtain ⟨m, ys, rfl, h2, t2⟩ := p2.lst
        exact ⟨_, op_cat, l, m, xs, ys, rfl, rfl, h1, h2, by rw [t1.length, t2.length, sizeLine_eq]; omega, fun p hp => q _ _ (newLst hp (t1.append t2))⟩
      · cases h
    | _ => exact nomatch h
  | tup a =>
    cases e with
    | tup b =>
      have h : (if a.length + b.length ≤ 1000000 then some (D.tup (a ++ b)) else none) = some r := h
      split at h
      · rename_i hl
        cases h
        obtain ⟨l, xs, rfl, h1, t1⟩ := p1.tupX
        obtain ⟨m, ys, rfl, h2, t2⟩ := p2.tupX
        refine ⟨_, op_catA, l, m, xs, ys, rfl, rfl, .of h1, .of h2, by rw [t1.length, t2.length, sizeLine_eq]; omega, fun e => ?_, fun _ e => ?_, fun _ _ p hp => q _ _ (newTup hp (t1.append t2))⟩
        · subst e; cases t1; exact q _ _ (.pure (.tup h2 t2))
        · subst e; cases t2; exact q _ _ (.pure (.tup h1 (by rw [List.append_nil]; exact t1)))
      · cases h
    | _ => exact nomatch h
  | _ => exact nomatch h
theorem DenAll.rep {vs : List V} {ds : List D} (h : DenAll K mg Z H vs ds) : ∀ n : Nat, DenAll K mg Z H (List.replicate n vs).flatten (List.replicate n ds).flatten
  | 0 => .nil
  | n + 1 => by
    rw [List.replicate_succ, List.replicate_succ, List.flatten_cons, List.flatten_cons]
    exact h.append (h.rep n)
def gMul : D → D → Option D
  | .int i, .int j => if i.natAbs.log2 + j.natAbs.log2 < 1000000 then some (.int (i * j)) else none
  | .lst a, .int k => if -1000000 ≤ k ∧ k ≤ 1000000 ∧ a.length * k.toNat ≤ 1000000 then some (.lst (List.replicate k.toNat a).flatten) else none
  | _, _ => none
theorem opG_mul {X : Cx} : OpR X (binaryOp .Mult) (rG X.K X.mg gMul) := opG fun Z H x y d e r Q dom p1 p2 h q => by
  cases d with
  | int i =>
    cases e with
    | int j =>
      have h : (if i.natAbs.log2 + j.natAbs.log2 < 1000000 then some (D.int (i * j)) else none) = some r := h
      split at h
      · rename_i hl
        exact ⟨_, op_mulW, i, j, p1.int, p2.int, hl, q _ _ (newI h)⟩
      · cases h
    | _ => exact nomatch h
  | lst a =>
    cases e with
    | int k =>
      have h : (if -1000000 ≤ k ∧ k ≤ 1000000 ∧ a.length * k.toNat ≤ 1000000 then some (D.lst (List.replicate k.toNat a).flatten) else none) = some r := h
      split at h
      · rename_i hl
        cases h
        obtain ⟨l, xs, rfl, h1, t1⟩ := p1.lst
        exact ⟨_, op_rep, l, k, xs, rfl, p2.int, h1, by omega, by omega, by rw [t1.length, sizeLine_eq]; omega, fun p hp => q _ _ (newLst hp (t1.rep _))⟩
      · cases h
    | _ => exact nomatch h
  | _ => exact nomatch h

/-! ### == of data -/
mutual
def plainD : D → Bool
  | .non => true
  | .bl _ => true
  | .int _ => true
  | .str _ => true
  | .tup l => plainDs l
  | .lst l => plainDs l
  | .dct _ => false
  | .fn _ => false
  | .rep _ => false
  | .scr _ => false
  | .ty _ => false
def plainDs : List D → Bool
  | [] => true
  | d :: r => plainD d && plainDs r
end
mutual
theorem Den.dp : ∀ {v : V} {d : D}, Den K mg Z H v d → plainD d = true → Dp K H v (toPy d)
  | _, _, .non, _ => by unfold toPy; exact .non
  | _, _, .bl b, _ => by unfold toPy; exact .bl b
  | _, _, .int i, _ => by unfold toPy; exact .int i
  | _, _, .str x, _ => by unfold toPy; exact .str x
  | _, _, .tup h t, p => by unfold toPy; exact .tup (.of h) (DenAll.dp t (by unfold plainD at p; exact p))
  | _, _, .mut z c, p => Cont.dp c p
  | _, _, .fn _, p => nomatch p
  | _, _, .rep _, p => nomatch p
  | _, _, .scr _, p => nomatch p
  | _, _, .ty _, p => nomatch p
theorem DenAll.dp : ∀ {vs : List V} {ds : List D}, DenAll K mg Z H vs ds → plainDs ds = true → DpAll K H vs (toPys ds)
  | _, _, .nil, _ => by unfold toPys; exact .nil
  | _, _, .cons h t, p => by
    unfold plainDs at p
    rw [Bool.and_eq_true] at p
    unfold toPys
    exact .cons (Den.dp h p.1) (DenAll.dp t p.2)
theorem Cont.dp : ∀ {a : Addr} {d : D}, Cont K mg Z H a d → plainD d = true → Dp K H (.ref a) (toPy d)
  | _, _, .lst h t, p => by unfold toPy; exact .lst (.inl (.inl h)) (DenAll.dp t (by unfold plainD at p; exact p))
  | _, _, .dK _ _ _, p => nomatch p
  | _, _, .dT _ _ _, p => nomatch p
end
theorem Pk.dp {v : V} {d : D} (h : Pk K mg Z H v d) (p : plainD d = true) : Dp K H v (toPy d) := by
  rcases h with h | ⟨a, rfl, c⟩
  · exact h.dp p
  · exact c.dp p
end
end DL
end
section
namespace DL
open PySem PySem.Spec PyProof.Rows L2
section
variable {K : PySem.W.Frag} {mg : Str → Option Value} {Z Z' Z0 Z1 Z2 : Addr → Prop} {H H' H0 H1 H2 H3 : Hp} {O O' O1 O2 : Addr → Prop} {ρ ρ' ρ0 ρ1 ρ2 : Env} {σ σ' σ0 σ1 σ2 : L2.St} {B : Addr}

/-! ### == and != -/
theorem dictOf_nil {P : Program} {w : World} {h : Heap} {a : Addr} (ok : HOk P w H h) (e : Rd H a (.dT [])) : (a == sysModules) = false ∧ h.DictOf (mixKind P w) a [] := by
  obtain ⟨_, y, xs, r, o, es, ep, h1, h2, h3, h4, _⟩ := dt_rd ok e
  cases r
  have e0 : es = #[] := by
    rw [List.map_nil] at h4
    simpa using h4
  subst e0
  obtain ⟨_, _, _, g, _, q, k, p, n⟩ := Heap.DictOf.new (knd := mixKind P w) h
  rw [Heap.get?_push_size h rfl] at g
  cases g
  cases q
  exact ⟨y, o, _, ep, h1, h2, h3, k, p, n⟩
def noTup : List (D × D) → Bool
  | (.tup _, _) :: _ => false
  | _ => true
/-- a dict whose keys are ints or texts, or an empty one -/
def DkV (H : Hp) (a : Addr) (n : Nat) : Prop := (∃ ks : List (Key × V), Rd H a (.dK ks) ∧ ks.length = n) ∨ (Rd H a (.dT []) ∧ n = 0)
theorem Cont.dkv {a : Addr} {l : List (D × D)} (c : Cont K mg Z H a (.dct l)) (h : noTup l = true) : DkV H a l.length := by
  cases c with
  | dK r e t =>
    refine .inl ⟨_, r, ?_⟩
    have q := congrArg List.length e
    simpa using q.symm
  | @dT _ kvs _ r e t =>
    cases kvs with
    | nil =>
      cases l with
      | nil => exact .inr ⟨r, rfl⟩
      | cons _ _ => cases e
    | cons p q =>
      cases l with
      | nil => cases e
      | cons x y =>
        obtain ⟨x1, x2⟩ := x
        rw [List.map_cons, List.map_cons] at e
        injection e with e1 _
        have e1 : x1 = _ := e1
        subst e1
        cases h
theorem DkV.at {P : Program} {w : World} {h : Heap} {a : Addr} {n : Nat} (d : DkV H a n) (ok : HOk P w H h) : (a == sysModules) = false ∧ ∃ vs : List (Key × Value), vs.length = n ∧ h.DictOf (mixKind P w) a vs := by
  rcases d with ⟨ks, e, hn⟩ | ⟨e, hn⟩
  · obtain ⟨_, y, vs, r, d⟩ := dk_rd ok e
    exact ⟨y, vs, by rw [← r.length]; exact hn, d⟩
  · obtain ⟨y, d⟩ := dictOf_nil ok e
    exact ⟨y, [], hn.symm, d⟩
/-- two dicts, not both with things in them -/
def rDE (neg : Bool) : R2 := fun x y H Q => ∃ a b n m, x = .ref a ∧ y = .ref b ∧ DkV H a n ∧ DkV H b m ∧ (n ≠ m ∨ n = 0) ∧ Q (.bl (if neg then !(n == m) else (n == m))) H
theorem op_eqDE {X : Cx} (hu : X.A.units < cLine) : OpR X (compareOp .Eq) (rDE false) := by
  intro pins s σ H x y v u Q I rx ry ⟨a, b, n, m, ex, ey, ea, eb, hn, q⟩
  subst ex ey
  cases (show v = Value.ref a from rx)
  cases (show u = Value.ref b from ry)
  obtain ⟨ya, va, la, da⟩ := ea.at I.hok
  obtain ⟨yb, vb, lb, db⟩ := eb.at I.hok
  subst la lb
  refine PySem.W.keq_eq (knd := mixKind X.prog X.w) (r := true) ya yb da db hu (fun e => ?_) (fin_bl I q (by simp))
  rcases hn with hn | hn
  · exact absurd e hn
  · rw [List.eq_nil_of_length_eq_zero hn]; exact .nil
theorem op_neDE {X : Cx} (hu : X.A.units < cLine) : OpR X (compareOp .NotEq) (rDE true) := by
  intro pins s σ H x y v u Q I rx ry ⟨a, b, n, m, ex, ey, ea, eb, hn, q⟩
  subst ex ey
  cases (show v = Value.ref a from rx)
  cases (show u = Value.ref b from ry)
  obtain ⟨ya, va, la, da⟩ := ea.at I.hok
  obtain ⟨yb, vb, lb, db⟩ := eb.at I.hok
  subst la lb
  refine PySem.W.keq_ne (knd := mixKind X.prog X.w) (r := true) ya yb da db hu (fun e => ?_) (fin_bl I q (by simp))
  rcases hn with hn | hn
  · exact absurd e hn
  · rw [List.eq_nil_of_length_eq_zero hn]; exact .nil

mutual
def eqD : D → D → Bool
  | .non, .non => true
  | .bl a, .bl b => a == b
  | .bl a, .int j => (if a then 1 else 0) == j
  | .int i, .bl b => i == (if b then 1 else 0)
  | .int i, .int j => i == j
  | .str x, .str y => x == y
  | .tup a, .tup b => eqDs a b
  | .lst a, .lst b => eqDs a b
  | _, _ => false
def eqDs : List D → List D → Bool
  | [], [] => true
  | d :: ds, e :: es => eqD d e && eqDs ds es
  | _, _ => false
end
mutual
theorem eqD_eqv : ∀ (d e : D), plainD d = true → plainD e = true → eqD d e = PyData.eqv (toPy d) (toPy e) := by
  intro d e pd pe
  cases d with
  | tup a => cases e with
    | tup b =>
      simp only [plainD] at pd pe
      simp only [eqD, toPy, PyData.eqv]
      exact eqDs_eqv a b pd pe
    | _ => first | (simp only [plainD] at pe; cases pe; done) | (simp only [eqD, toPy, PyData.eqv])
  | lst a => cases e with
    | lst b =>
      simp only [plainD] at pd pe
      simp only [eqD, toPy, PyData.eqv]
      exact eqDs_eqv a b pd pe
    | _ => first | (simp only [plainD] at pe; cases pe; done) | (simp only [eqD, toPy, PyData.eqv])
  | _ => first
    | (simp only [plainD] at pd; cases pd; done)
    | (cases e <;> first | (simp only [plainD] at pe; cases pe; done) | (simp only [eqD, toPy, PyData.eqv]))
theorem eqDs_eqv : ∀ (d e : List D), plainDs d = true → plainDs e = true → eqDs d e = PyData.eqvAll (toPys d) (toPys e)
  | [], [], _, _ => by simp only [eqDs, toPys, PyData.eqvAll]
  | [], _ :: _, _, _ => by simp only [eqDs, toPys, PyData.eqvAll]
  | _ :: _, [], _, _ => by simp only [eqDs, toPys, PyData.eqvAll]
  | d :: ds, e :: es, pd, pe => by
    simp only [plainDs, Bool.and_eq_true] at pd pe
    simp only [eqDs, toPys, PyData.eqvAll]
    rw [eqD_eqv d e pd.1 pe.1, eqDs_eqv ds es pd.2 pe.2]
end
mutual
/-- what == of data asks: no odd text, no deep nest -/
def fitD : Nat → D → Bool
  | _, .non => true
  | _, .bl _ => true
  | _, .int _ => true
  | _, .str x => PyData.strOk x
  | n + 1, .tup l => fitDs n l
  | n + 1, .lst l => fitDs n l
  | _, _ => false
def fitDs : Nat → List D → Bool
  | _, [] => true
  | n, d :: r => fitD n d && fitDs n r
end
mutual
theorem fitD_ok : ∀ (n : Nat) (d : D), fitD n d = true → plainD d = true ∧ (toPy d).canLay0 = true ∧ (toPy d).depth ≤ n := by
  intro n d h
  cases d with
  | tup l =>
    cases n with
    | zero => simp only [fitD] at h; cases h
    | succ n =>
      simp only [fitD] at h
      obtain ⟨h1, h2, h3⟩ := fitDs_ok n l h
      simp only [plainD, toPy, PyData.canLay0, PyData.depth]
      exact ⟨h1, h2, by omega⟩
  | lst l =>
    cases n with
    | zero => simp only [fitD] at h; cases h
    | succ n =>
      simp only [fitD] at h
      obtain ⟨h1, h2, h3⟩ := fitDs_ok n l h
      simp only [plainD, toPy, PyData.canLay0, PyData.depth]
      exact ⟨h1, h2, by omega⟩
  | str x =>
    have h : PyData.strOk x = true := by cases n <;> simpa only [fitD] using h
    simp only [plainD, toPy, PyData.canLay0, PyData.depth]
    exact ⟨trivial, h, by omega⟩
  | non => simp only [plainD, toPy, PyData.canLay0, PyData.depth]; exact ⟨trivial, trivial, by omega⟩
  | bl _ => simp only [plainD, toPy, PyData.canLay0, PyData.depth]; exact ⟨trivial, trivial, by omega⟩
  | int _ => simp only [plainD, toPy, PyData.canLay0, PyData.depth]; exact ⟨trivial, trivial, by omega⟩
  | _ => cases n <;> (simp only [fitD] at h; cases h)
theorem fitDs_ok : ∀ (n : Nat) (d : List D), fitDs n d = true → plainDs d = true ∧ PyData.canLayAll0 (toPys d) = true ∧ PyData.depthAll (toPys d) ≤ n
  | n, [], _ => by simp only [plainDs, toPys, PyData.canLayAll0, PyData.depthAll]; exact ⟨trivial, trivial, by omega⟩
  | n, d :: r, h => by
    simp only [fitDs, Bool.and_eq_true] at h
    obtain ⟨a1, a2, a3⟩ := fitD_ok n d h.1
    obtain ⟨b1, b2, b3⟩ := fitDs_ok n r h.2
    simp only [plainDs, toPys, PyData.canLayAll0, PyData.depthAll, Bool.and_eq_true]
    exact ⟨⟨a1, b1⟩, ⟨a2, b2⟩, by omega⟩
end
theorem shaped_of {d : D} (h : fitD 64 d = true) : SeqAt.shaped (toPy d) = true := by
  obtain ⟨_, h1, h2⟩ := fitD_ok 64 d h
  unfold SeqAt.shaped
  rw [h1, decide_eq_true h2]; rfl
mutual
/-- the very same data -/
def sameD : D → D → Bool
  | .non, .non => true
  | .bl a, .bl b => a == b
  | .int i, .int j => i == j
  | .str x, .str y => x == y
  | .tup a, .tup b => sameDs a b
  | .lst a, .lst b => sameDs a b
  | _, _ => false
def sameDs : List D → List D → Bool
  | [], [] => true
  | d :: ds, e :: es => sameD d e && sameDs ds es
  | _, _ => false
end
mutual
theorem sameD_ok : ∀ (d e : D), sameD d e = true → d = e := by
  intro d e h
  cases d with
  | tup a => cases e with
    | tup b => simp only [sameD] at h; rw [sameDs_ok a b h]
    | _ => simp only [sameD] at h; cases h
  | lst a => cases e with
    | lst b => simp only [sameD] at h; rw [sameDs_ok a b h]
    | _ => simp only [sameD] at h; cases h
  | _ => cases e <;> first
    | rfl
    | (simp only [sameD] at h; cases h; done)
    | (simp only [sameD, beq_iff_eq] at h; rw [h])
theorem sameDs_ok : ∀ (d e : List D), sameDs d e = true → d = e
  | [], [], _ => rfl
  | [], _ :: _, h => by simp only [sameDs] at h; cases h
  | _ :: _, [], h => by simp only [sameDs] at h; cases h
  | d :: ds, e :: es, h => by
    simp only [sameDs, Bool.and_eq_true] at h
    rw [sameD_ok d e h.1, sameDs_ok ds es h.2]
end
/-- == as a Bool, where it is told -/
def eqO : D → D → Option Bool
  | .int i, .int j => some (i == j)
  | .bl i, .bl j => some (i == j)
  | .str i, .str j => some (i == j)
  | .dct l, .dct m => if noTup l = true ∧ noTup m = true ∧ (l.length ≠ m.length ∨ l.length = 0) then some (l.length == m.length) else none
  | .rep d, .rep e => if sameD d e = true then some true else none
  | d, e => if fitD 64 d = true ∧ fitD 64 e = true then some (eqD d e) else none
theorem eqO_ok {X : Cx} (hu : X.A.units + 64 < cLine) {f : Value → Value → Sem Value} {neg : Bool} (o1 : OpR X f fun x y H Q => scal x y = true ∧ Q (.bl (if neg then !decide (x = y) else decide (x = y))) H) (o2 : OpR X f (rDE neg))
    (o3 : OpR X f fun x y H Q => ∃ d e, Dp X.K H x d ∧ Dp X.K H y e ∧ SeqAt.shaped d = true ∧ SeqAt.shaped e = true ∧ Q (.bl (if neg then !PyData.eqv d e else PyData.eqv d e)) H) :
    OpR X f (rG X.K X.mg fun d e => (eqO d e).map fun b => .bl (if neg then !b else b)) := opG fun Z H x y d e r Q dom p1 p2 h q => by
  cases eb : eqO d e with
  | none => rw [eb] at h; cases h
  | some b =>
    rw [eb] at h
    cases h
    have fin : Q (.bl (if neg then !b else b)) H := q _ _ (.pure (.bl _))
    have gen : fitD 64 d = true → fitD 64 e = true → eqD d e = b → ∃ r2 : R2, OpR X f r2 ∧ r2 x y H Q := fun f1 f2 e3 => by
      have g1 := (fitD_ok _ _ f1).1
      have g2 := (fitD_ok _ _ f2).1
      refine ⟨_, o3, toPy d, toPy e, p1.dp g1, p2.dp g2, shaped_of f1, shaped_of f2, ?_⟩
      rw [← eqD_eqv d e g1 g2, e3]
      exact fin
    have gen' : (if fitD 64 d = true ∧ fitD 64 e = true then some (eqD d e) else none) = some b → ∃ r2 : R2, OpR X f r2 ∧ r2 x y H Q := fun h => by
      split at h
      · rename_i hf
        exact gen hf.1 hf.2 (Option.some.inj h)
      · cases h
    cases d with
    | int i => cases e with
      | int j =>
        cases eb
        rw [← dec_int] at fin
        refine ⟨_, o1, ?_⟩
        rw [p1.int, p2.int]
        exact ⟨rfl, fin⟩
      | _ => exact gen' eb
    | bl i => cases e with
      | bl j =>
        cases eb
        rw [← dec_bl] at fin
        refine ⟨_, o1, ?_⟩
        rw [p1.bl, p2.bl]
        exact ⟨rfl, fin⟩
      | _ => exact gen' eb
    | str i => cases e with
      | str j =>
        cases eb
        rw [← dec_str] at fin
        refine ⟨_, o1, ?_⟩
        rw [p1.str, p2.str]
        exact ⟨rfl, fin⟩
      | _ => exact gen' eb
    | rep i => cases e with
      | rep j =>
        have eb : (if sameD i j = true then some true else none) = some b := eb
        split at eb
        · rename_i hs
          cases eb
          have ij := sameD_ok _ _ hs
          subst ij
          refine ⟨_, o1, ?_⟩
          rw [p1.rep, p2.rep]
          exact ⟨rfl, by rw [decide_eq_true rfl]; exact fin⟩
        · cases eb
      | _ => exact gen' eb
    | dct l => cases e with
      | dct m =>
        have eb : (if noTup l = true ∧ noTup m = true ∧ (l.length ≠ m.length ∨ l.length = 0) then some (l.length == m.length) else none) = some b := eb
        split at eb
        · rename_i hs
          cases eb
          obtain ⟨a1, rfl, c1⟩ := p1.contD
          obtain ⟨a2, rfl, c2⟩ := p2.contD
          exact ⟨_, o2, a1, a2, _, _, rfl, rfl, c1.dkv hs.1, c2.dkv hs.2.1, hs.2.2, fin⟩
        · cases eb
      | _ => exact gen' eb
    | _ => exact gen' eb
def gEq (d e : D) : Option D := (eqO d e).map fun b => .bl b
def gNe (d e : D) : Option D := (eqO d e).map fun b => .bl (!b)
theorem opG_eq {X : Cx} (hu : X.A.units + 64 < cLine) : OpR X (compareOp .Eq) (rG X.K X.mg gEq) := eqO_ok (neg := false) hu op_eq (op_eqDE (by omega)) (op_eqD hu)
theorem opG_ne {X : Cx} (hu : X.A.units + 64 < cLine) : OpR X (compareOp .NotEq) (rG X.K X.mg gNe) := eqO_ok (neg := true) hu op_ne (op_neDE (by omega)) (op_neD hu)
end
end DL
end
section
namespace DL
open PySem PySem.Spec PyProof.Rows L2
section
variable {K : PySem.W.Frag} {mg : Str → Option Value} {Z Z' Z0 Z1 Z2 : Addr → Prop} {H H' H0 H1 H2 H3 : Hp} {O O' O1 O2 : Addr → Prop} {ρ ρ' ρ0 ρ1 ρ2 : Env} {σ σ' σ0 σ1 σ2 : L2.St} {B : Addr}

/-! ### ints in lists -/
def intsD : List D → Option (List Int)
  | [] => some []
  | .int i :: r => (intsD r).map (i :: ·)
  | _ => none
theorem DenAll.ints : ∀ {vs : List V} {ds : List D} {ns : List Int}, DenAll K mg Z H vs ds → intsD ds = some ns → vs = ns.map V.int
  | _, [], _, .nil, e => by cases e; rfl
  | _, d :: r, _, .cons h t, e => by
    cases d with
    | int i =>
      have e : (intsD r).map (i :: ·) = some _ := e
      cases q : intsD r with
      | none => rw [q] at e; cases e
      | some m =>
        rw [q] at e
        cases e
        rw [t.ints q, Pk.int (.inl h)]; rfl
    | _ => cases e
theorem DenAll.of_ints : ∀ (ns : List Int), DenAll K mg Z H (ns.map V.int) (ns.map D.int)
  | [] => .nil
  | n :: r => .cons (.int n) (.of_ints r)
def boolsD : List D → Option (List Bool)
  | [] => some []
  | .bl i :: r => (boolsD r).map (i :: ·)
  | _ => none
theorem DenAll.bools : ∀ {vs : List V} {ds : List D} {ns : List Bool}, DenAll K mg Z H vs ds → boolsD ds = some ns → vs = ns.map V.bl
  | _, [], _, .nil, e => by cases e; rfl
  | _, d :: r, _, .cons h t, e => by
    cases d with
    | bl i =>
      have e : (boolsD r).map (i :: ·) = some _ := e
      cases q : boolsD r with
      | none => rw [q] at e; cases e
      | some m =>
        rw [q] at e
        cases e
        rw [t.bools q, Pk.bl (.inl h)]; rfl
    | _ => cases e

/-! ### < -/
def gLt : D → D → Option D
  | .int i, .int j => some (.bl (decide (i < j)))
  | .tup a, .tup b => match intsD a, intsD b with
    | some x, some y => some (.bl (HT.lexLt x y))
    | _, _ => none
  | _, _ => none
theorem opG_lt {X : Cx} (hu : X.A.units < cLine) : OpR X (compareOp .Lt) (rG X.K X.mg gLt) := opG fun Z H x y d e r Q dom p1 p2 h q => by
  cases d with
  | int i => cases e with
    | int j => exact ⟨_, op_lt, i, j, p1.int, p2.int, q _ _ (newB h)⟩
    | _ => exact nomatch h
  | tup a => cases e with
    | tup b =>
      have h : (match intsD a, intsD b with
        | some x, some y => some (D.bl (HT.lexLt x y))
        | _, _ => none) = some r := h
      cases e1 : intsD a with
      | none => simp only [e1] at h; cases h
      | some ns =>
        cases e2 : intsD b with
        | none => simp only [e1, e2] at h; cases h
        | some ms =>
          simp only [e1, e2] at h
          obtain ⟨l, xs, rfl, h1, t1⟩ := p1.tup
          obtain ⟨m, ys, rfl, h2, t2⟩ := p2.tup
          have f1 := t1.ints e1
          have f2 := t2.ints e2
          subst f1 f2
          exact ⟨_, op_ltT hu, l, m, ns, ms, rfl, rfl, h1, h2, q _ _ (newB h)⟩
    | _ => exact nomatch h
  | _ => exact nomatch h

/-! ### in, is None -/
def flatOf : D → Option V
  | .non => some .non
  | .bl b => some (.bl b)
  | .int i => some (.int i)
  | .str x => some (.str x)
  | _ => none
theorem flatOf_ok {v x : V} {d : D} (h : Pk K mg Z H v d) (e : flatOf d = some x) : v = x ∧ flatV v = true := by
  cases d with
  | non => cases e; cases h.non; exact ⟨rfl, rfl⟩
  | bl b => cases e; cases h.bl; exact ⟨rfl, rfl⟩
  | int b => cases e; cases h.int; exact ⟨rfl, rfl⟩
  | str b => cases e; cases h.str; exact ⟨rfl, rfl⟩
  | _ => cases e
def flatsOf : List D → Option (List V)
  | [] => some []
  | d :: r => match flatOf d, flatsOf r with
    | some v, some vs => some (v :: vs)
    | _, _ => none
theorem flatsOf_ok : ∀ {vs xs : List V} {ds : List D}, DenAll K mg Z H vs ds → flatsOf ds = some xs → vs = xs ∧ vs.all flatV = true
  | _, _, _, .nil, e => by cases e; exact ⟨rfl, rfl⟩
  | _, _, d :: r, .cons h t, e => by
    unfold flatsOf at e
    cases e1 : flatOf d with
    | none => simp only [e1] at e; cases e
    | some x =>
      cases e2 : flatsOf r with
      | none => simp only [e1, e2] at e; cases e
      | some ys =>
        simp only [e1, e2] at e
        cases e
        obtain ⟨a1, a2⟩ := flatOf_ok (.inl h) e1
        obtain ⟨b1, b2⟩ := flatsOf_ok t e2
        exact ⟨by rw [a1, b1], by rw [List.all_cons, a2, b2]; rfl⟩
def inO : D → D → Option Bool
  | d, .lst l => match flatOf d, flatsOf l with
    | some x, some xs => some (inV x xs)
    | _, _ => none
  | d, .tup l => match flatOf d, flatsOf l with
    | some x, some xs => some (inV x xs)
    | _, _ => none
  | _, _ => none
theorem inO_ok {X : Cx} {f : Value → Value → Sem Value} {neg : Bool} (o1 : OpR X f (rIn X.K neg)) : OpR X f (rG X.K X.mg fun d e => (inO d e).map fun b => .bl (if neg then !b else b)) := opG fun Z H x y d e r Q dom p1 p2 h q => by
  have key : ∀ {l : List D} {p : Addr} {ys : List V}, y = .ref p → (SqL X.K H p ys ∨ SqT X.K H p ys) → DenAll X.K X.mg Z H ys l → ((match flatOf d, flatsOf l with
    | some x, some xs => some (inV x xs)
    | _, _ => none).map fun b => D.bl (if neg then !b else b)) = some r → ∃ r2 : R2, OpR X f r2 ∧ r2 x y H Q := fun {l p ys} ey hs t h => by
    cases e1 : flatOf d with
    | none => simp only [e1] at h; cases h
    | some v =>
      cases e2 : flatsOf l with
      | none => simp only [e1, e2] at h; cases h
      | some xs =>
        simp only [e1, e2] at h
        cases h
        obtain ⟨a1, a2⟩ := flatOf_ok p1 e1
        obtain ⟨b1, b2⟩ := flatsOf_ok t e2
        refine ⟨_, o1, p, ys, ey, hs, a2, b2, ?_⟩
        rw [a1, b1]
        have fin := q (.bl (if neg then !(inV v xs) else inV v xs)) H (.pure (.bl _))
        exact fin
  cases e with
  | lst l =>
    obtain ⟨a, xs, rfl, h1, t1⟩ := p2.lst
    exact key rfl (.inl (.inl (.inl h1))) t1 h
  | tup l =>
    obtain ⟨a, xs, rfl, h1, t1⟩ := p2.tup
    exact key rfl (.inr h1) t1 h
  | _ => exact nomatch h
def gIn (d e : D) : Option D := (inO d e).map fun b => .bl b
def gNotIn (d e : D) : Option D := (inO d e).map fun b => .bl (!b)
theorem opG_in {X : Cx} : OpR X (compareOp .In) (rG X.K X.mg gIn) := inO_ok (neg := false) op_in_seq
theorem opG_notIn {X : Cx} : OpR X (compareOp .NotIn) (rG X.K X.mg gNotIn) := inO_ok (neg := true) op_notIn_seq
def nonD : D → Bool
  | .non => true
  | _ => false
theorem nonD_ok {v : V} {d : D} (h : Pk K mg Z H v d) : decide (v = .non) = nonD d := by
  have nr : ∀ {a : Addr}, decide (V.ref a = .non) = false := fun {a} => decide_eq_false (by intro e; cases e)
  rcases h with h | ⟨a, rfl, c⟩
  · cases h with
    | «mut» z c => cases c <;> exact nr
    | non => rfl
    | bl b => exact decide_eq_false (by intro e; cases e)
    | int b => exact decide_eq_false (by intro e; cases e)
    | str b => exact decide_eq_false (by intro e; cases e)
    | tup _ _ => exact nr
    | fn _ => exact nr
    | rep _ => exact decide_eq_false (by intro e; cases e)
    | scr _ => exact nr
    | ty _ => exact decide_eq_false (by intro e; cases e)
  · cases c <;> exact nr
def gIs : D → D → Option D
  | d, .non => some (.bl (nonD d))
  | _, _ => none
def gIsNot : D → D → Option D
  | d, .non => some (.bl (!nonD d))
  | _, _ => none
theorem opG_is {X : Cx} : OpR X (compareOp .Is) (rG X.K X.mg gIs) := opG fun Z H x y d e r Q dom p1 p2 h q => by
  cases e with
  | non =>
    cases h
    exact ⟨_, op_isN, p2.non, by rw [nonD_ok p1]; exact q _ _ (.pure (.bl _))⟩
  | _ => cases d <;> exact nomatch h
theorem opG_isNot {X : Cx} : OpR X (compareOp .IsNot) (rG X.K X.mg gIsNot) := opG fun Z H x y d e r Q dom p1 p2 h q => by
  cases e with
  | non =>
    cases h
    exact ⟨_, op_notN, p2.non, by rw [nonD_ok p1]; exact q _ _ (.pure (.bl _))⟩
  | _ => cases d <;> exact nomatch h

/-! ### subscripts -/
def gIx : D → D → Option D
  | .lst l, .int i => atI l i
  | .tup l, .int i => atI l i
  | .scr l, .int i => (atI l i).map .int
  | _, _ => none
theorem DenAll.atI {vs : List V} {ds : List D} {i : Int} {d : D} (h : DenAll K mg Z H vs ds) (e : L2.atI ds i = some d) : ∃ v, L2.atI vs i = some v ∧ Den K mg Z H v d := by
  unfold L2.atI at e ⊢
  rw [h.length]
  cases q : ixN ds.length i with
  | none => rw [q] at e; cases e
  | some j =>
    rw [q] at e
    exact h.get e
/-- what comes stood there before -/
def rGF (K : PySem.W.Frag) (mg : Str → Option Value) (g : D → D → Option D) : R2 := fun x y H Q => ∃ (Z : Addr → Prop) (d e r : D), (∀ a, Z a → H a ≠ none) ∧ Pk K mg Z H x d ∧ Pk K mg Z H y e ∧ g d e = some r ∧ ∀ w, Den K mg Z H w r → Q w H
def fin2F (g : D → D → Option D) (ρ : Env) (p q : R) : Res (R × Env) := match peek ρ p, peek ρ q with
  | some d, some e => match g d e with
    | some r => .ok (.fz r, ρ)
    | none => .stuck
  | _, _ => .stuck
def mIx (g : D → D → Option D) (ma mb : ME) : ME := fun ρ => (ma ρ).bind fun p => (mb p.2).bind fun q => fin2F g q.2 p.1 q.1
theorem tIx_ok {W : WX} {g : D → D → Option D} {ma mb : ME} {σ : L2.St} {H : Hp} {Q : VK} (h : tD K mg W (mIx g ma mb) σ H Q) : tOp (rGF K mg g) (tD K mg W ma) (tD K mg W mb) σ H Q := by
  obtain ⟨B, Z, ρ, rel, h⟩ := h
  refine opd rel h fun x Z1 H1 p ρ1 rel1 s1 dx h1 => opd rel1 h1 fun y Z2 H2 q ρ2 rel2 s2 dy h2 => ?_
  unfold fin2F at h2
  simp only at h2
  cases e1 : peek ρ2 p with
  | none => rw [e1] at h2; exact h2.elim
  | some d =>
    cases e2 : peek ρ2 q with
    | none => rw [e1, e2] at h2; exact h2.elim
    | some e =>
      rw [e1, e2] at h2
      simp only at h2
      cases e3 : g d e with
      | none => rw [e3] at h2; exact h2.elim
      | some r =>
        rw [e3] at h2
        exact ⟨Z2, d, e, r, rel2.dom, (dx.step rel1 s2).pk rel2 e1, dy.pk rel2 e2, e3, fun w hw => h2 w Z2 H2 rel2 .refl hw⟩
theorem ixG {X : Cx} {g : D → D → Option D} (h : ∀ (Z : Addr → Prop) (H : Hp) (x y : V) (d e r : D) (Q : VK), (∀ a, Z a → H a ≠ none) → Pk X.K X.mg Z H x d → Pk X.K X.mg Z H y e → g d e = some r → (∀ w, Den X.K X.mg Z H w r → Q w H) →
    ∃ r2 : R2, IxR X r2 ∧ r2 x y H Q) : IxR X (rGF X.K X.mg g) := by
  intro value slice pins s σ H x y v u Q I rx ry ⟨Z, d, e, r, dom, p1, p2, hg, q⟩ hs
  obtain ⟨r2, ho, h2⟩ := h Z H x y d e r Q dom p1 p2 hg q
  exact ho value slice pins s σ H x y v u Q I rx ry h2 hs
theorem ixG_ok {X : Cx} : IxR X (rGF X.K X.mg gIx) := ixG fun Z H x y d e r Q dom p1 p2 h q => by
  cases d with
  | lst l => cases e with
    | int i =>
      obtain ⟨a, xs, rfl, h1, t1⟩ := p1.lst
      obtain ⟨v, e2, hv⟩ := t1.atI h
      exact ⟨_, ix_list, a, xs, i, v, rfl, p2.int, .inl (.inl h1), e2, q _ hv⟩
    | _ => exact nomatch h
  | tup l => cases e with
    | int i =>
      obtain ⟨a, xs, rfl, h1, t1⟩ := p1.tup
      obtain ⟨v, e2, hv⟩ := t1.atI h
      exact ⟨_, ix_tup, a, xs, i, v, rfl, p2.int, h1, e2, q _ hv⟩
    | _ => exact nomatch h
  | scr l => cases e with
    | int i =>
      have h : (atI l i).map D.int = some r := h
      obtain ⟨a, rfl, h1⟩ := p1.scr
      cases e1 : atI l i with
      | none => rw [e1] at h; cases h
      | some n =>
        rw [e1] at h
        cases h
        refine ⟨_, ix_list, a, _, i, .int n, rfl, p2.int, h1, ?_, q _ (.int n)⟩
        unfold L2.atI at e1 ⊢
        rw [List.length_map]
        cases q : ixN l.length i with
        | none => rw [q] at e1; cases e1
        | some j =>
          rw [q] at e1
          show (l.map V.int)[j]? = _
          have e1 : l[j]? = some n := e1
          rw [List.getElem?_map, e1]; rfl
    | _ => exact nomatch h
  | _ => exact nomatch h
theorem de_ixG {X : Cx} {W : WX} {a b : Expr} {pos : Pos} {ma mb : ME} (ha : DE X W a ma) (hb : DE X W b mb) (hs : PlainIx b := by intro _ _; rfl) : DE X W (.Subscript a b pos) (mIx gIx ma mb) :=
  PE.imp (pe_ix ixG_ok ha hb hs) fun _ _ _ h => tIx_ok h

/-! ### slices -/
def partI : D → Option Int
  | .int i => some i
  | _ => none
def cutD (xs : List D) (lo hi : Option Int) : List D := (xs.drop (HT.sIx xs.length 0 lo)).take (HT.sIx xs.length xs.length hi - HT.sIx xs.length 0 lo)
theorem DenAll.drop : ∀ {vs : List V} {ds : List D} (n : Nat), DenAll K mg Z H vs ds → DenAll K mg Z H (vs.drop n) (ds.drop n)
  | _, _, 0, t => t
  | _, _, _ + 1, .nil => .nil
  | _, _, n + 1, .cons _ t => t.drop n
theorem DenAll.take : ∀ {vs : List V} {ds : List D} (n : Nat), DenAll K mg Z H vs ds → DenAll K mg Z H (vs.take n) (ds.take n)
  | _, _, 0, _ => .nil
  | _, _, _ + 1, .nil => .nil
  | _, _, n + 1, .cons h t => .cons h (t.take n)
theorem DenAll.cut {vs : List V} {ds : List D} (h : DenAll K mg Z H vs ds) (lo hi : Option Int) : DenAll K mg Z H (cutV vs lo hi) (cutD ds lo hi) := by
  unfold cutV cutD
  rw [h.length]
  exact (h.drop _).take _
def sliceD (lo hi : Option Int) : D → Option D
  | .lst l => some (.lst (cutD l lo hi))
  | .tup l => some (.tup (cutD l lo hi))
  | _ => none
def rSlG (K : PySem.W.Frag) (mg : Str → Option Value) : V → Option Int → Option Int → Hp → VK → Prop := fun x lo hi H Q => ∃ (Z : Addr → Prop) (d r : D), (∀ a, Z a → H a ≠ none) ∧ Pk K mg Z H x d ∧ sliceD lo hi d = some r ∧ ∀ w H', NewV K mg Z H H' w r → Q w H'
theorem slG {X : Cx} : SlR X (rSlG X.K X.mg) := by
  intro pins s σ H x v vl vu lo hi sl Q I rx hs pl pu ⟨Z, d, r, dom, p1, h, q⟩
  cases d with
  | lst l =>
    cases h
    obtain ⟨a, xs, rfl, h1, t1⟩ := p1.lst
    exact sl_list pins s σ H _ v vl vu lo hi sl Q I rx hs pl pu ⟨a, xs, rfl, .inl (.inl h1), fun p hp => q _ _ (newLst hp (t1.cut lo hi))⟩
  | tup l =>
    cases h
    obtain ⟨a, xs, rfl, h1, t1⟩ := p1.tupX
    refine sl_tupA pins s σ H _ v vl vu lo hi sl Q I rx hs pl pu ⟨a, xs, rfl, .of h1, fun e => ?_, fun _ p hp => q _ _ (newTup hp (t1.cut lo hi))⟩
    have e2 : cutD l lo hi = l := by
      unfold cutD
      rw [← t1.length, e.1, e.2, List.drop_zero, Nat.sub_zero, t1.length, List.take_length]
    rw [e2] at q
    exact q _ _ (.pure (.tup h1 t1))
  | _ => exact nomatch h
/-- x[lo:] with lo an expression -/
def mSl (ma ml : ME) : ME := fun ρ => (ma ρ).bind fun p => (ml p.2).bind fun q => match peek q.2 q.1 with
  | some (.int i) => fin1 (sliceD (some i) none) q.2 p.1
  | _ => .stuck
def mSl2 (ma ml mh : ME) : ME := fun ρ => (ma ρ).bind fun p => (ml p.2).bind fun q => match peek q.2 q.1 with
  | some (.int i) => (mh q.2).bind fun t => match peek t.2 t.1 with
    | some (.int j) => fin1 (sliceD (some i) (some j)) t.2 p.1
    | _ => .stuck
  | _ => .stuck
def mSlH (ma mh : ME) : ME := fun ρ => (ma ρ).bind fun p => (mh p.2).bind fun q => match peek q.2 q.1 with
  | some (.int i) => fin1 (sliceD none (some i)) q.2 p.1
  | _ => .stuck
theorem fin1S_ok {W : WX} {lo hi : Option Int} {p : R} {x : V} {Q : VK} {Hs : Hp} (rel : Rel K mg B Z H ρ σ) (hs : ∀ a, Hs a ≠ none → H a ≠ none) (dx : PDen K mg Z H σ x p)
    (h : Fin K mg W (fun Z' H' ρ' v r => RDen K mg Hs Z' H' ρ' σ v r) B Z H ρ σ (fin1 (sliceD lo hi) ρ p) Q) : rSlG K mg x lo hi H Q :=
  fin1_ok (r1 := fun x H Q => rSlG K mg x lo hi H Q) (fun Z H x d rr Q dom pk e q => ⟨Z, d, rr, dom, pk, e, q⟩) rel hs dx h
theorem de_sl {X : Cx} {W : WX} {e lo : Expr} {pos p2 : Pos} {ma ml : ME} (ha : DE X W e ma) (hl : DE X W lo ml) : DE X W (.Subscript e (.Slice (some lo) none none p2) pos) (mSl ma ml) :=
  PE.imp (pe_slice slG ha (po_some hl) po_none) fun σ H Q ⟨B, Z, ρ, rel, h⟩ => opd rel h fun x Z1 H1 p ρ1 rel1 s1 dx h1 => opd rel1 h1 fun y Z2 H2 q ρ2 rel2 s2 dy h2 => by
    simp only at h2
    cases e1 : peek ρ2 q with
    | none => rw [e1] at h2; exact h2.elim
    | some d =>
      rw [e1] at h2
      cases d with
      | int i => exact ⟨i, (dy.pk rel2 e1).int, fin1S_ok rel2 (s1.trans s2).p (dx.step rel1 s2) h2⟩
      | _ => exact h2.elim
theorem de_slH {X : Cx} {W : WX} {e hi : Expr} {pos p2 : Pos} {ma mh : ME} (ha : DE X W e ma) (hl : DE X W hi mh) : DE X W (.Subscript e (.Slice none (some hi) none p2) pos) (mSlH ma mh) :=
  PE.imp (pe_slice slG ha po_none (po_some hl)) fun σ H Q ⟨B, Z, ρ, rel, h⟩ => opd rel h fun x Z1 H1 p ρ1 rel1 s1 dx h1 => opd rel1 h1 fun y Z2 H2 q ρ2 rel2 s2 dy h2 => by
    simp only at h2
    cases e1 : peek ρ2 q with
    | none => rw [e1] at h2; exact h2.elim
    | some d =>
      rw [e1] at h2
      cases d with
      | int i => exact ⟨i, (dy.pk rel2 e1).int, fin1S_ok rel2 (s1.trans s2).p (dx.step rel1 s2) h2⟩
      | _ => exact h2.elim
theorem de_sl2 {X : Cx} {W : WX} {e lo hi : Expr} {pos p2 : Pos} {ma ml mh : ME} (ha : DE X W e ma) (hl : DE X W lo ml) (hh : DE X W hi mh) : DE X W (.Subscript e (.Slice (some lo) (some hi) none p2) pos) (mSl2 ma ml mh) :=
  PE.imp (pe_slice slG ha (po_some hl) (po_some hh)) fun σ H Q ⟨B, Z, ρ, rel, h⟩ => opd rel h fun x Z1 H1 p ρ1 rel1 s1 dx h1 => opd rel1 h1 fun y Z2 H2 q ρ2 rel2 s2 dy h2 => by
    simp only at h2
    cases e1 : peek ρ2 q with
    | none => rw [e1] at h2; exact h2.elim
    | some d =>
      rw [e1] at h2
      cases d with
      | int i =>
        refine ⟨i, (dy.pk rel2 e1).int, opd rel2 h2 fun z Z3 H3 t ρ3 rel3 s3 dz h3 => ?_⟩
        simp only at h3
        cases e2 : peek ρ3 t with
        | none => rw [e2] at h3; exact h3.elim
        | some d =>
          rw [e2] at h3
          cases d with
          | int j => exact ⟨j, (dz.pk rel3 e2).int, fin1S_ok rel3 ((s1.trans s2).trans s3).p ((dx.step rel1 s2).step rel2 s3) h3⟩
          | _ => exact h3.elim
      | _ => exact h2.elim
end
end DL
end
section
namespace DL
open PySem PySem.Spec PyProof.Rows L2
section
variable {K : PySem.W.Frag} {mg : Str → Option Value} {Z Z' Z0 Z1 Z2 : Addr → Prop} {H H' H0 H1 H2 H3 : Hp} {O O' O1 O2 : Addr → Prop} {ρ ρ' ρ0 ρ1 ρ2 : Env} {σ σ' σ0 σ1 σ2 : L2.St} {B : Addr}

/-! ### built-ins -/
theorem callG {X : Cx} {f : Value} {g : List D → Option D} (h : ∀ (Z : Addr → Prop) (H : Hp) (xs : List V) (ds : List D) (r : D) (Q : VK), (∀ a, Z a → H a ≠ none) → Pks X.K X.mg Z H xs ds → g ds = some r → (∀ w H', NewV X.K X.mg Z H H' w r → Q w H') →
    ∃ r2, CallR X f r2 ∧ r2 xs H Q) : CallR X f (rC X.K X.mg g) := by
  intro pins s σ H xs us Q I r ⟨Z, ds, rr, dom, p, hg, q⟩
  obtain ⟨r2, ho, h2⟩ := h Z H xs ds rr Q dom p hg q
  exact ho pins s σ H xs us Q I r h2
theorem Pks.un {v : List V} {d : D} (h : Pks K mg Z H v [d]) : ∃ x, v = [x] ∧ Pk K mg Z H x d := by
  cases h with
  | cons h t => cases t; exact ⟨_, rfl, h⟩
theorem Pks.bi {v : List V} {d e : D} (h : Pks K mg Z H v [d, e]) : ∃ x y, v = [x, y] ∧ Pk K mg Z H x d ∧ Pk K mg Z H y e := by
  cases h with
  | cons h t =>
    cases t with
    | cons h2 t => cases t; exact ⟨_, _, rfl, h, h2⟩
def gLen : List D → Option D
  | [.lst l] => some (.int (l.length : Nat))
  | [.tup l] => some (.int (l.length : Nat))
  | [.dct l] => some (.int (l.length : Nat))
  | [.scr l] => some (.int (l.length : Nat))
  | [.str x] => if x.length ≤ 1000000 then some (.int (x.length : Nat)) else none
  | _ => none
def rLenDT : List V → Hp → VK → Prop := fun xs H Q => ∃ a n, xs = [V.ref a] ∧ ((∃ kvs : List (Key × V), Rd H a (.dK kvs) ∧ kvs.length = n) ∨ ∃ kvs : List (List Key × V), Rd H a (.dT kvs) ∧ kvs.length = n) ∧ Q (.int (n : Nat)) H
theorem call_lenDT {X : Cx} : CallR X (.builtin "len") rLenDT := by
  intro pins s σ H xs us Q I r ⟨a, n, ex, h, q⟩
  subst ex
  obtain rfl := Vals.ref1 r
  rcases h with ⟨kvs, ha, hn⟩ | ⟨kvs, ha, hn⟩
  · subst hn
    exact d_len I ha fun t s' I' => ⟨.int (kvs.length : Nat), H, I', ⟨t, rfl⟩, q⟩
  · subst hn
    obtain ⟨z, hd, ys, rel, dd⟩ := dt_rd I.hok ha
    have hl : kvs.length = ys.length := Paired.length rel
    have hs : sizeLine = 16777216 := sizeLine_eq
    refine call_len_dictH hd dd (by omega) ?_
    exact ⟨.int (kvs.length : Nat), H, I.tok _, ⟨_, by rw [hl]⟩, q⟩
theorem callG_len {X : Cx} : CallR X (.builtin "len") (rC X.K X.mg gLen) := callG fun Z H xs ds r Q dom p h q => by
  cases ds with
  | nil => cases h
  | cons d t => cases t with
    | cons _ _ => cases d <;> exact nomatch h
    | nil =>
      obtain ⟨x, rfl, px⟩ := p.un
      cases d with
      | lst l =>
        obtain ⟨a, ys, rfl, h1, t1⟩ := px.lst
        exact ⟨_, call_len_seq, a, ys, rfl, .inl (.inl (.inl h1)), by rw [t1.length]; exact q _ _ (newI h)⟩
      | tup l =>
        obtain ⟨a, ys, rfl, h1, t1⟩ := px.tup
        exact ⟨_, call_len_seq, a, ys, rfl, .inr h1, by rw [t1.length]; exact q _ _ (newI h)⟩
      | scr l =>
        obtain ⟨a, rfl, h1⟩ := px.scr
        exact ⟨_, call_len_seq, a, _, rfl, .inl h1, by rw [List.length_map]; exact q _ _ (newI h)⟩
      | dct l =>
        obtain ⟨a, rfl, c⟩ := px.contD
        cases c with
        | dK r e t =>
          have e' := congrArg List.length e
          rw [List.length_map, List.length_map] at e'
          exact ⟨_, call_lenDT, a, l.length, rfl, .inl ⟨_, r, e'.symm⟩, q _ _ (newI h)⟩
        | dT r e t =>
          have e' := congrArg List.length e
          rw [List.length_map, List.length_map] at e'
          exact ⟨_, call_lenDT, a, l.length, rfl, .inr ⟨_, r, e'.symm⟩, q _ _ (newI h)⟩
      | str z =>
        have h : (if z.length ≤ 1000000 then some (D.int (z.length : Nat)) else none) = some r := h
        split at h
        · rename_i hz
          refine ⟨_, call_len_str, z, by rw [px.str], by rw [sizeLine_eq]; omega, q _ _ (newI h)⟩
        · cases h
      | _ => exact nomatch h
def gAbs : List D → Option D
  | [.int i] => some (.int (if i < 0 then -i else i))
  | _ => none
theorem callG_abs {X : Cx} : CallR X (.builtin "abs") (rC X.K X.mg gAbs) := callG fun Z H xs ds r Q dom p h q => by
  unfold gAbs at h
  split at h
  · rename_i i
    cases h
    exact ⟨_, call_abs, i, p.one, q _ _ (.pure (.int _))⟩
  · cases h
def gInt : List D → Option D
  | [.int i] => some (.int i)
  | [.bl k] => some (.int (if k then 1 else 0))
  | _ => none
theorem callG_int {X : Cx} : CallR X (.type "int") (rC X.K X.mg gInt) := callG fun Z H xs ds r Q dom p h q => by
  unfold gInt at h
  split at h
  · rename_i i
    cases h
    exact ⟨_, call_int1, .inl ⟨i, p.one, q _ _ (.pure (.int _))⟩⟩
  · rename_i k
    cases h
    obtain ⟨x, rfl, px⟩ := p.un
    exact ⟨_, call_int1, .inr ⟨k, by rw [px.bl], q _ _ (.pure (.int _))⟩⟩
  · cases h
/-- the greatest -/
def maxI (i : Int) : List Int → Int
  | [] => i
  | j :: r => maxI (if i < j then j else i) r
def minI (i : Int) : List Int → Int
  | [] => i
  | j :: r => minI (if j < i then j else i) r
theorem maxI_ok : ∀ (r : List Int) (i : Int), maxI i r ∈ i :: r ∧ ∀ y ∈ i :: r, y ≤ maxI i r
  | [], i => ⟨List.mem_singleton.mpr rfl, fun y h => by cases h with
    | head => exact Int.le_refl _
    | tail _ h => cases h⟩
  | j :: r, i => by
    obtain ⟨h1, h2⟩ := maxI_ok r (if i < j then j else i)
    have h3 := h2 _ (List.mem_cons_self)
    unfold maxI
    refine ⟨?_, fun y hy => ?_⟩
    · rcases List.mem_cons.mp h1 with h | h
      · rw [h]
        split
        · exact List.mem_cons_of_mem _ List.mem_cons_self
        · exact List.mem_cons_self
      · exact List.mem_cons_of_mem _ (List.mem_cons_of_mem _ h)
    · rcases List.mem_cons.mp hy with h | h
      · subst h; split at h3 <;> rename_i hc <;> (try rw [if_pos hc]) <;> (try rw [if_neg hc]) <;> omega
      · rcases List.mem_cons.mp h with h | h
        · subst h; split at h3 <;> rename_i hc <;> (try rw [if_pos hc]) <;> (try rw [if_neg hc]) <;> omega
        · exact h2 y (List.mem_cons_of_mem _ h)
theorem minI_ok : ∀ (r : List Int) (i : Int), minI i r ∈ i :: r ∧ ∀ y ∈ i :: r, minI i r ≤ y
  | [], i => ⟨List.mem_singleton.mpr rfl, fun y h => by cases h with
    | head => exact Int.le_refl _
    | tail _ h => cases h⟩
  | j :: r, i => by
    obtain ⟨h1, h2⟩ := minI_ok r (if j < i then j else i)
    have h3 := h2 _ (List.mem_cons_self)
    unfold minI
    refine ⟨?_, fun y hy => ?_⟩
    · rcases List.mem_cons.mp h1 with h | h
      · rw [h]
        split
        · exact List.mem_cons_of_mem _ List.mem_cons_self
        · exact List.mem_cons_self
      · exact List.mem_cons_of_mem _ (List.mem_cons_of_mem _ h)
    · rcases List.mem_cons.mp hy with h | h
      · subst h; split at h3 <;> rename_i hc <;> (try rw [if_pos hc]) <;> (try rw [if_neg hc]) <;> omega
      · rcases List.mem_cons.mp h with h | h
        · subst h; split at h3 <;> rename_i hc <;> (try rw [if_pos hc]) <;> (try rw [if_neg hc]) <;> omega
        · exact h2 y (List.mem_cons_of_mem _ h)
def gMax : List D → Option D
  | [.int i, .int j] => some (.int (if j > i then j else i))
  | [.lst l] => match intsD l with
    | some (i :: r) => some (.int (maxI i r))
    | _ => none
  | _ => none
def gMin : List D → Option D
  | [.int i, .int j] => some (.int (if j < i then j else i))
  | [.lst l] => match intsD l with
    | some (i :: r) => some (.int (minI i r))
    | _ => none
  | _ => none
theorem maxI_only {m i : Int} {r : List Int} (h1 : m ∈ i :: r) (h2 : ∀ y ∈ i :: r, y ≤ m) : m = maxI i r := by
  obtain ⟨a, b⟩ := maxI_ok r i
  exact Int.le_antisymm (b m h1) (h2 _ a)
theorem minI_only {m i : Int} {r : List Int} (h1 : m ∈ i :: r) (h2 : ∀ y ∈ i :: r, m ≤ y) : m = minI i r := by
  obtain ⟨a, b⟩ := minI_ok r i
  exact Int.le_antisymm (h2 _ a) (b m h1)
theorem callG_max {X : Cx} (hc : X.calm = true) : CallR X (.builtin "max") (rC X.K X.mg gMax) := callG fun Z H xs ds r Q dom p h q => by
  unfold gMax at h
  split at h
  · rename_i i j
    cases h
    exact ⟨_, call_max2 hc, i, j, p.two, q _ _ (.pure (.int _))⟩
  · rename_i l
    split at h
    · rename_i i t e
      cases h
      obtain ⟨x, rfl, px⟩ := p.un
      obtain ⟨a, ys, rfl, h1, t1⟩ := px.lst
      have e1 := t1.ints e
      subst e1
      exact ⟨_, cr_max hc, a, i :: t, rfl, .inl (.inl h1), Nat.succ_pos _, fun m m1 m2 => by rw [maxI_only m1 m2]; exact q _ _ (.pure (.int _))⟩
    · cases h
  · cases h
theorem callG_min {X : Cx} (hc : X.calm = true) : CallR X (.builtin "min") (rC X.K X.mg gMin) := callG fun Z H xs ds r Q dom p h q => by
  unfold gMin at h
  split at h
  · rename_i i j
    cases h
    exact ⟨_, call_min2 hc, i, j, p.two, q _ _ (.pure (.int _))⟩
  · rename_i l
    split at h
    · rename_i i t e
      cases h
      obtain ⟨x, rfl, px⟩ := p.un
      obtain ⟨a, ys, rfl, h1, t1⟩ := px.lst
      have e1 := t1.ints e
      subst e1
      exact ⟨_, cr_min hc, a, i :: t, rfl, .inl (.inl h1), Nat.succ_pos _, fun m m1 m2 => by rw [minI_only m1 m2]; exact q _ _ (.pure (.int _))⟩
    · cases h
  · cases h
def gSum : List D → Option D
  | [.lst l] => (intsD l).map fun ns => .int ns.sum
  | _ => none
theorem callG_sum {X : Cx} (hc : X.calm = true) : CallR X (.builtin "sum") (rC X.K X.mg gSum) := callG fun Z H xs ds r Q dom p h q => by
  unfold gSum at h
  split at h
  · rename_i l
    cases e : intsD l with
    | none => rw [e] at h; cases h
    | some ns =>
      rw [e] at h
      cases h
      obtain ⟨x, rfl, px⟩ := p.un
      obtain ⟨a, ys, rfl, h1, t1⟩ := px.lst
      have e1 := t1.ints e
      subst e1
      exact ⟨_, cr_sum hc, a, ns, rfl, .inl (.inl h1), q _ _ (.pure (.int _))⟩
  · cases h
def gAll : List D → Option D
  | [.lst l] => (boolsD l).map fun ns => .bl (ns.all id)
  | _ => none
def gAny : List D → Option D
  | [.lst l] => (boolsD l).map fun ns => .bl (ns.any id)
  | _ => none
theorem callG_all {X : Cx} (hc : X.calm = true) : CallR X (.builtin "all") (rC X.K X.mg gAll) := callG fun Z H xs ds r Q dom p h q => by
  unfold gAll at h
  split at h
  · rename_i l
    cases e : boolsD l with
    | none => rw [e] at h; cases h
    | some ns =>
      rw [e] at h
      cases h
      obtain ⟨x, rfl, px⟩ := p.un
      obtain ⟨a, ys, rfl, h1, t1⟩ := px.lst
      have e1 := t1.bools e
      subst e1
      exact ⟨_, cr_all hc, a, ns, rfl, .inl (.inl h1), q _ _ (.pure (.bl _))⟩
  · cases h
theorem callG_any {X : Cx} (hc : X.calm = true) : CallR X (.builtin "any") (rC X.K X.mg gAny) := callG fun Z H xs ds r Q dom p h q => by
  unfold gAny at h
  split at h
  · rename_i l
    cases e : boolsD l with
    | none => rw [e] at h; cases h
    | some ns =>
      rw [e] at h
      cases h
      obtain ⟨x, rfl, px⟩ := p.un
      obtain ⟨a, ys, rfl, h1, t1⟩ := px.lst
      have e1 := t1.bools e
      subst e1
      exact ⟨_, cr_any hc, a, ns, rfl, .inl (.inl h1), q _ _ (.pure (.bl _))⟩
  · cases h
def gTuple : List D → Option D
  | [.lst l] => some (.tup l)
  | [.tup l] => some (.tup l)
  | _ => none
theorem callG_tuple {X : Cx} : CallR X (.type "tuple") (rC X.K X.mg gTuple) := callG fun Z H xs ds r Q dom p h q => by
  unfold gTuple at h
  split at h
  · rename_i l
    cases h
    obtain ⟨x, rfl, px⟩ := p.un
    obtain ⟨a, ys, rfl, h1, t1⟩ := px.lst
    exact ⟨_, call_tuple_of, a, ys, rfl, .inl ⟨.inl (.inl h1), fun l hl => q _ _ (newTup hl t1)⟩⟩
  · rename_i l
    cases h
    obtain ⟨x, rfl, px⟩ := p.un
    obtain ⟨a, ys, rfl, h1, t1⟩ := px.tupX
    exact ⟨_, call_tuple_of, a, ys, rfl, .inr ⟨.of h1, q _ _ (.pure (.tup h1 t1))⟩⟩
  · cases h
def gList : List D → Option D
  | [.lst l] => some (.lst l)
  | [.tup l] => some (.lst l)
  | [.scr l] => some (.lst (l.map .int))
  | _ => none
theorem callG_list {X : Cx} : CallR X (.type "list") (rC X.K X.mg gList) := callG fun Z H xs ds r Q dom p h q => by
  unfold gList at h
  split at h
  · rename_i l
    cases h
    obtain ⟨x, rfl, px⟩ := p.un
    obtain ⟨a, ys, rfl, h1, t1⟩ := px.lst
    exact ⟨_, call_list_of, a, ys, rfl, .inl (.inl (.inl h1)), fun l hl => q _ _ (newLst hl t1)⟩
  · rename_i l
    cases h
    obtain ⟨x, rfl, px⟩ := p.un
    obtain ⟨a, ys, rfl, h1, t1⟩ := px.tup
    exact ⟨_, call_list_of, a, ys, rfl, .inr h1, fun l hl => q _ _ (newLst hl t1)⟩
  · rename_i l
    cases h
    obtain ⟨x, rfl, px⟩ := p.un
    obtain ⟨a, rfl, h1⟩ := px.scr
    exact ⟨_, call_list_of, a, _, rfl, .inl h1, fun p hl => q _ _ (newLst hl (.of_ints _))⟩
  · cases h

/-! ### isinstance -/
def tyOf : D → Option String
  | .non => some "NoneType"
  | .bl _ => some "bool"
  | .int _ => some "int"
  | .str _ => some "str"
  | .tup _ => some "tuple"
  | .lst _ => some "list"
  | _ => none
theorem Cont.tyx {a : Addr} {d : D} {t : String} (c : Cont K mg Z H a d) (e : tyOf d = some t) : TyX K H (.ref a) (.type t) := by
  cases c with
  | lst h t => cases e; exact .base (.lst h)
  | dK h _ t => cases e
  | dT h _ t => cases e
theorem Pk.tyx {v : V} {d : D} {t : String} (p : Pk K mg Z H v d) (e : tyOf d = some t) : TyX K H v (.type t) := by
  rcases p with p | ⟨a, rfl, c⟩
  · cases p with
    | non => cases e; exact .base .non
    | bl b => cases e; exact .base (.bl b)
    | int b => cases e; exact .base (.int b)
    | str b => cases e; exact .base (.str b)
    | tup h t => cases e; exact .base (.tup h)
    | «mut» z c => exact c.tyx e
    | _ => cases e
  · exact c.tyx e
def gIsi : List D → Option D
  | [d, .ty n] => match tyOf d with
    | some t => (kitB t n).map .bl
    | none => none
  | _ => none
theorem callG_isi {X : Cx} : CallR X (.builtin "isinstance") (rC X.K X.mg gIsi) := callG fun Z H xs ds r Q dom p h q => by
  unfold gIsi at h
  split at h
  · rename_i d n
    obtain ⟨x, y, rfl, px, py⟩ := p.bi
    cases e : tyOf d with
    | none => rw [e] at h; cases h
    | some t =>
      rw [e] at h
      simp only at h
      cases e2 : kitB t n with
      | none => rw [e2] at h; cases h
      | some b =>
        rw [e2] at h
        cases h
        exact ⟨_, call_isi, x, y, .type t, .type n, b, rfl, by rw [py.ty]; exact .ty n, px.tyx e, kit_ty e2, q _ _ (.pure (.bl _))⟩
  · cases h
/-- a built-in class as a value -/
theorem de_ty {X : Cx} {W : WX} {x : Str} {n : String} {pos : Pos} (hg : Gl X x) (hm : X.mg x = none) (hv : bootBuiltins x = some (.type n)) (hn : x ≠ "__name__" := by decide) (hd : (x == ("__debug__" : Str)) = false := by decide) : DE X W (.Name x pos) (mC (.ty n)) :=
  de_c (pe_bltn hg hm hv (v := .ty n) rfl hn hd) fun _ _ => ⟨fun _ _ e => e, .ty n⟩

/-! ### repr -/
def big : Nat := 1000000000
mutual
def repSz : D → Nat
  | .non => 4
  | .bl _ => 5
  | .int i => if i.natAbs < 1000000000000000000 then 19 else if i.natAbs.log2 < 1920 then 1921 else big
  | .tup l => repSzs l + 3
  | .lst l => repSzs l + 3
  | _ => big
def repSzs : List D → Nat
  | [] => 0
  | d :: r => repSz d + 2 + repSzs r
end
theorem p10 : (10 : Nat) ^ 18 = 1000000000000000000 := by decide
mutual
theorem repSz_ok : ∀ d : D, repSz d < big → plainD d = true ∧ (toPy d).showable = true ∧ (toPy d).hasDict = false ∧ (toPy d).shown.length ≤ repSz d := by
  intro d h
  cases d with
  | non => simp only [plainD, toPy, PyData.showable, PyData.hasDict, PyData.shown, repSz]; exact ⟨trivial, trivial, trivial, by decide⟩
  | bl b => simp only [plainD, toPy, PyData.showable, PyData.hasDict, PyData.shown, repSz]; exact ⟨trivial, trivial, trivial, by cases b <;> decide⟩
  | int i =>
    simp only [repSz] at h ⊢
    simp only [plainD, toPy, PyData.showable, PyData.hasDict, PyData.shown]
    have hi : i.natAbs.log2 < 1920 := by
      split at h
      · rename_i hl
        have e : (2 : Nat) ^ 60 = 1152921504606846976 := by decide
        have hl2 : i.natAbs < 2 ^ 60 := by omega
        have := PySem.Flt.log2_lt_of (by decide) hl2
        omega
      · split at h
        · assumption
        · exact absurd h (Nat.lt_irrefl _)
    refine ⟨trivial, decide_eq_true hi, trivial, ?_⟩
    rw [PySem.ofString_length]
    split
    · rename_i hl
      exact PySem.int_text_length_le10 (k := 18) (by decide) (by rw [p10]; exact hl)
    · exact PySem.int_text_length_le (k := 1920) (by decide) hi
  | tup l =>
    simp only [repSz] at h ⊢
    obtain ⟨a1, a2, a3, a4⟩ := repSzs_ok l (by omega)
    simp only [plainD, toPy, PyData.showable, PyData.hasDict, PyData.shown]
    refine ⟨a1, a2, a3, ?_⟩
    have := PySem.tupleText_len_le (PyData.shownAll (toPys l))
    omega
  | lst l =>
    simp only [repSz] at h ⊢
    obtain ⟨a1, a2, a3, a4⟩ := repSzs_ok l (by omega)
    simp only [plainD, toPy, PyData.showable, PyData.hasDict, PyData.shown]
    refine ⟨a1, a2, a3, ?_⟩
    have := PySem.listText_len_le (PyData.shownAll (toPys l))
    omega
  | _ => simp only [repSz] at h; exact absurd h (Nat.lt_irrefl _)
theorem repSzs_ok : ∀ d : List D, repSzs d < big → plainDs d = true ∧ PyData.showableAll (toPys d) = true ∧ PyData.hasDictAll (toPys d) = false ∧ ((PyData.shownAll (toPys d)).map (·.length)).sum + 2 * (PyData.shownAll (toPys d)).length ≤ repSzs d
  | [], _ => by simp only [plainDs, toPys, PyData.showableAll, PyData.hasDictAll, PyData.shownAll, repSzs]; exact ⟨trivial, trivial, trivial, by decide⟩
  | d :: r, h => by
    simp only [repSzs] at h ⊢
    obtain ⟨a1, a2, a3, a4⟩ := repSz_ok d (by omega)
    obtain ⟨b1, b2, b3, b4⟩ := repSzs_ok r (by omega)
    simp only [plainDs, toPys, PyData.showableAll, PyData.hasDictAll, PyData.shownAll, a1, b1, a2, b2, a3, b3, List.map_cons, List.sum_cons, List.length_cons]
    exact ⟨rfl, rfl, rfl, by omega⟩
end
def gRepr : List D → Option D
  | [.lst l] => if repSz (.lst l) ≤ 10000000 ∧ fitD 64 (.lst l) = true then some (.rep (.lst l)) else none
  | [.tup l] => if repSz (.tup l) ≤ 10000000 ∧ fitD 64 (.tup l) = true then some (.rep (.tup l)) else none
  | _ => none
def rReprD (K : PySem.W.Frag) : List V → Hp → VK → Prop := fun xs H Q => ∃ (a : Addr) (d : PyData), xs = [.ref a] ∧ Dp K H (.ref a) d ∧ d.showable = true ∧ d.hasDict = false ∧ d.depth ≤ 64 ∧ d.shown.length ≤ sizeLine ∧ Q (.str d.shown) H
theorem call_reprD {X : Cx} (gd : X.A.guards = some []) (hu : X.A.units + 80 < cLine) : CallR X (.builtin "repr") (rReprD X.K) := by
  intro pins s σ H xs us Q I r ⟨a, d, ex, hd, h1, h2, h3, h4, q⟩
  subst ex
  obtain rfl := Vals.ref1 r
  obtain ⟨as, rd⟩ := Dp.reads I d _ _ hd rfl
  exact PySem.repr_of_reads' rd h1 (fun e => by rw [h2] at e; cases e) gd (by omega) (fun _ _ e => e) (fun h' u tk hk => ⟨.str d.shown, H, I.kept hk, ⟨_, rfl⟩, q⟩) h4
theorem callG_repr {X : Cx} (gd : X.A.guards = some []) (hu : X.A.units + 80 < cLine) : CallR X (.builtin "repr") (rC X.K X.mg gRepr) := callG fun Z H xs ds r Q dom p h q => by
  have key : ∀ (d : D) (a : Addr), xs = [.ref a] → Pk X.K X.mg Z H (.ref a) d → (if repSz d ≤ 10000000 ∧ fitD 64 d = true then some (D.rep d) else none) = some r → ∃ r2, CallR X (.builtin "repr") r2 ∧ r2 xs H Q := fun d a ex px h => by
    split at h
    · rename_i hz
      cases h
      obtain ⟨b1, b2, b3, b4⟩ := repSz_ok d (by unfold big; omega)
      exact ⟨_, call_reprD gd hu, a, toPy d, ex, px.dp b1, b2, b3, (fitD_ok _ _ hz.2).2.2, by rw [sizeLine_eq]; omega, q _ _ (.pure (.rep d))⟩
    · cases h
  unfold gRepr at h
  split at h
  · rename_i l
    obtain ⟨x, rfl, px⟩ := p.un
    obtain ⟨a, c, rfl, _⟩ := px.lst
    exact key _ a rfl px h
  · rename_i l
    obtain ⟨x, rfl, px⟩ := p.un
    obtain ⟨a, c, rfl, _⟩ := px.tup
    exact key _ a rfl px h
  · cases h
end
end DL
end
section
namespace DL
open PySem PySem.Spec PyProof.Rows L2

/-! ### a new dict by turns, keys ints, texts, or tuples of such -/
/-- the store of a block's turn -/
theorem putD_run {X : Cx} {pins : List (Addr × Obj)} {σ : L2.St} {H H' : Hp} {s : Shared} {E : Value → Shared → Prop} {a : Addr} {y v : V} {u r : Value} {Q : Unit → Shared → Prop} (hu : X.A.units < cLine) (I : Inv X pins σ H s) (g : DPut H a y v H') (ry : L2.RelV y u) (rv : L2.RelV v r)
    (h : ∀ s', Inv X pins σ H' s' → Q () s') : wpAny (model X.prog X.w) X.A (dictSet a u r) Q E s := by
  rcases g with ⟨kvs, k, e, ey, l, eH⟩ | ⟨kvs, k, b, e, ey, eb, l, eH⟩
  · subst ey eH
    exact d_dictSet I e l ry rv h
  · subst ey eH
    cases (show u = Value.ref b from ry)
    obtain ⟨z, hd, xs, rel, dd⟩ := dt_rd I.hok (.inl e)
    have zx : xs.length ≤ sizeLine := Paired.length rel ▸ z
    have zp : (putK kvs k v).length ≤ sizeLine := Nat.le_trans (length_putK kvs k v) (by omega)
    refine wpAny_dictSet_heap (knd := tupleKind (mixKind X.prog X.w)) hu (key_of I.hok eb) dd (fun h2 d2 sb => h _ ?_) zx
    obtain ⟨o, es, ep, g1, g2, g3, g4, g5, g6⟩ := d2
    have kt : KT (upd H a (.dT (putK kvs k v))) (putK kvs k v) (storedH xs k b r) := (rel.put k eb rv).keeps fun c ys ec => by
      by_cases hc : c = a
      · rw [hc, e] at ec; cases ec
      · rw [upd_ne hc]; exact ec
    exact d_write I (by rw [e]; exact True.intro) sb ⟨o, g1⟩ ⟨zp, hd, _, kt, o, es, ep, g1, g2, g3, g4, g6⟩
/-- a new dict, to hold keys of one of the two kinds -/
def New0 (u : HO) : Prop := u = .dK [] ∨ u = .dT []
def tDg (wi : TI) (g : TG) (tt : TT) (tk tv : TE) (vs : List Nat) : TE := fun σ H Q => wi σ H fun J H1 => ∀ D, H1 D = none → ∃ u0, New0 u0 ∧ ∃ W : Nat → Nat → Hp → Prop, (∃ m, W 0 m (upd H1 D u0)) ∧ ∀ i m H, W i m H →
  (J.stop i H ∧ Q (.ref D) H) ∨ (J.go i H ∧ ∃ Nx : Hp → Prop, (∀ H', Nx H' → ∃ m', m' < m ∧ W (i + 1) m' H') ∧ ∀ x H', J.yld i H x H' → g x (wipe σ vs) H' fun σ2 H2 => wipe σ2 vs = wipe σ vs ∧ tt σ2 H2 fun b H3 =>
    if b = true then tk σ2 H3 fun y H4 => tv σ2 H4 fun z H5 => ∃ H6, DPut H5 D y z H6 ∧ Nx H6 else Nx H3)
abbrev BlkPE (X : Cx) (scope : Scope) (e : Expr) (t : TE) : Prop := ∀ (s : Shared) (H : Hp) (C : Addr) (cl : List (Str × Addr)) (fp : List Addr), PE (X.blk s H scope (compEnvC scope cl C X.env) fp) e t
theorem pe_dg {X : Cx} {kx vx tg iter : Expr} {ifs : List Expr} {scope : Scope} {own : List (Str × Nat)} {pos : Pos} {wi : TI} {g : TG} {tt : TT} {tk tv : TE} (hc : X.calm = true) (hu : X.A.units < cLine) (hN : X.N.Nodup) (hi : PI X tg iter wi) (ok : BlkOk X.N X.env.scope scope own)
    (hg : ∀ (s : Shared) (H : Hp) (C : Addr) (cl : List (Str × Addr)) (fp : List Addr), PG (X.blk s H scope (compEnvC scope cl C X.env) fp) tg g) (ht : ∀ (s : Shared) (H : Hp) (C : Addr) (cl : List (Str × Addr)) (fp : List Addr), PTs (X.blk s H scope (compEnvC scope cl C X.env) fp) ifs tt)
    (hk : BlkPE X scope kx tk) (hv : BlkPE X scope vx tv) (hs : ∀ x, foldedSetIterable iter X.env x = pure x) : PE X (.DictComp kx vx [⟨tg, iter, ifs, 0⟩] scope pos) (tDg wi g tt tk tv (own.map (·.2))) := by
  constructor
  intro pins s σ H Q I h
  rw [arm_eval_DictComp]
  have frees : ∀ y ∈ scope.names, y.2 = .free → ∃ c, X.env.cells.lookup y.1 = some c := fun y hy e => (ok.free y hy e).elim (fun k => I.ok.has _ (.inl k)) fun k => I.ok.has _ (.inr k)
  refine wpAny_comprehension_free rfl hs (closure_ok frees) ok.kind (fun y hy e => (ok.uniq y hy).trans (congrArg some e)) (thn (hi.run pins s σ H _ I h) fun _ _ hx => thn hx fun _ s2 h2 => ?_)
  rcases h2 with ⟨it, fp, tn, J, H2, rfl, I2, T, st2, f2, q⟩
  refine wpAny_newObj_type (newEnv_comp ?_)
  let D := s2.heap.objs.size
  have hDn : H2 D = none := I2.hok.fresh (Nat.le_refl _)
  obtain ⟨u0, hu0, W, ⟨m0, w0⟩, turn⟩ := q D hDn
  -- the dict is laid
  let sD : Shared := { s2 with heap := s2.heap.push { cls := .type "dict", data := .dict #[] } }
  have ID : Inv X pins σ (upd H2 D u0) sD := by
    refine I2.laid (t' := s2.toks) (fun b o e => Heap.get?_push_of_some _ e) (Nat.le_refl _) ?_
    rcases hu0 with rfl | rfl
    · exact dk_empty s2.heap I2.big
    · exact dt_empty s2.heap I2.big
  have walkLt : ∀ b ∈ fp, b < D := fun b hb => by
    obtain ⟨o, e, _⟩ := T.obj _ _ st2 b hb
    exact Heap.lt_size e
  have fD : ∀ b ∈ fp, FpOk X pins (upd H2 D u0) b ∧ b < sD.heap.objs.size := fun b hb => by
    have lt := walkLt b hb
    refine ⟨⟨?_, (f2 b hb).2⟩, Nat.lt_of_lt_of_eq (Nat.lt_succ_of_lt lt) (Heap.size_push ..).symm⟩
    rw [upd_ne (Nat.ne_of_lt lt)]
    exact (f2 b hb).1
  have stD : tn 0 sD.heap := T.keep _ _ _ st2 fun b _ o e => Heap.get?_push_of_some _ e
  have IB := block_start ID ok hN fD
  have nfp : ∀ b ∈ fp, (upd H2 D u0) b = none := fun b hb => (fD b hb).1.1
  let cl := cellsFrom (sD.heap.objs.size + 1) scope.names (cloFrom X.env.cells scope.names [])
  let ce := compEnvC scope cl sD.heap.objs.size X.env
  have pg := hg sD (upd H2 D u0) sD.heap.objs.size cl fp
  have pt := ht sD (upd H2 D u0) sD.heap.objs.size cl fp
  have pk := hk sD (upd H2 D u0) sD.heap.objs.size cl fp
  have pv := hv sD (upd H2 D u0) sD.heap.objs.size cl fp
  let XB := X.blk sD (upd H2 D u0) scope ce fp
  have stay : ∀ {σ' : L2.St} {H' : Hp} {s' : Shared}, Inv XB [] σ' H' s' → (∀ b ∈ fp, H' b = none) → ∀ b ∈ fp, FpOk XB [] H' b := fun {σ' H' s'} J' n b hb =>
    ⟨n b hb, (J'.ok.exf b hb).1, J'.ok.exfs b hb, Or.inl hb, fun x c e => (J'.ok.exf b hb).2 x c e, fun p hp => nomatch (show p ∈ ([] : List (Addr × Obj)) from hp)⟩
  let sB : Shared := { sD with heap := pushCells (sD.heap.push { cls := .type "dict", data := .dict #[] }) scope.names }
  have stB : tn 0 sB.heap := T.keep _ _ _ stD fun b _ o e => pushCells_keeps _ _ _ _ (Heap.get?_push_of_some _ e)
  have loop : codeAny (model X.prog X.w) X.A (.compLoop (.DictComp kx vx [⟨tg, iter, ifs, 0⟩] scope pos) 0 (.ref it) (.ref D) ce) (compPost (model X.prog X.w) X.A X.xe none (EP X pins σ Q) (.ref D) sD.heap.objs.size) sB := by
    refine compLoop_anyD (fun n s' => ∃ i H', Inv XB [] (wipe σ (own.map (·.2))) H' s' ∧ tn i s'.heap ∧ (∀ b ∈ fp, H' b = none) ∧ W i n H') ?_ m0 ⟨0, _, IB, stB, nfp, w0⟩
    intro n s5 ⟨i, H5, I5, st5, n5, w5⟩
    rcases turn i n H5 w5 with ⟨stop, qq⟩ | ⟨go, Nx, hNx, step⟩
    · -- the walk ends
      refine thnF (T.done XB rfl rfl rfl hc i [] s5 _ H5 (fun _ _ => False) I5 (stay I5 n5) st5 stop) fun r s6 hr6 => ?_
      obtain ⟨rfl, I6⟩ := hr6
      have nC : H5 sD.heap.objs.size = none := I6.free
      obtain ⟨m, hn, _⟩ := I6.loc
      have back : Inv X pins σ H5 s6 := ID.call' (ch := fp) I6.os I6.base I6.hok I6.bare fun b hb =>
        let z := (fD b hb).1.2
        ⟨z.2.2.1, z.1, z.2.2.2.1, z.2.2.2.2⟩
      obtain ⟨f0, f1, f3, f4, f5, f6⟩ := ID.fpOk (Nat.le_refl _) nC
      exact ⟨m, hn, fun h'' sb => ⟨.ref D, H5, back.turned (t' := s6.toks) (fun b o hb e => (sb.2 b hb).trans e) f0 f1 f4 f5 f6, rfl, qq⟩⟩
    · -- one turn
      refine thnF (T.item XB rfl rfl rfl hc i [] s5 _ H5 (fun _ _ => False) I5 (stay I5 n5) st5 go) fun r s6 hr6 => ?_
      obtain ⟨u, rfl, h6⟩ := hr6
      refine thnF h6 fun _ s7 ⟨x, H7, I7, r7, y7, st7, n7⟩ => ?_
      refine thnF (pg.run _ s7 _ H7 x u _ (I7.pinned (stay I7 n7) (T.obj _ _ st7)) r7 (step x H7 y7)) fun _ s8 ⟨σ8, H8, I8, hw8, q8⟩ => ?_
      refine thnF (pt.run _ s8 σ8 H8 _ I8 q8) fun b s9 ⟨H9, I9, q9⟩ => ?_
      have next : ∀ {s' : Shared} {H' : Hp}, Inv XB ([] ++ pinsAt fp s7.heap) σ8 H' s' → Nx H' → ∃ m, m < n ∧ ∃ i H', Inv XB [] (wipe σ (own.map (·.2))) H' s' ∧ tn i s'.heap ∧ (∀ b ∈ fp, H' b = none) ∧ W i m H' := by
        intro s' H' J' nx
        obtain ⟨m', lt, w'⟩ := hNx H' nx
        have pinned : ∀ c ∈ fp, ∀ o, s7.heap.get? c = some o → s'.heap.get? c = some o ∧ H' c = none := fun c hc o e =>
          have z := J'.pin (c, o) (List.mem_append_right _ (List.mem_append_right _ (mem_pinsAt hc e)))
          ⟨z.1, z.2.1⟩
        refine ⟨m', lt, i + 1, H', ?_, T.keep _ _ _ st7 fun c hc o e => (pinned c hc o e).1, fun c hc => ?_, w'⟩
        · refine (J'.unpinned (pins := [])).weak (by rw [← hw8, wipe_length]) fun j v e => ?_
          rw [← hw8] at e
          exact (wipe_some e).1
        · obtain ⟨o, e, _⟩ := T.obj _ _ st7 c hc
          exact (pinned c hc o e).2
      cases b with
      | true =>
        simp only [↓reduceIte] at q9 ⊢
        refine thnF (pk.run _ s9 σ8 H9 _ I9 q9) fun z s10 ⟨yk, H10, I10, r10, q10⟩ => ?_
        refine thnF (pv.run _ s10 σ8 H10 _ I10 q10) fun z2 s11 ⟨yv, H11, I11, r11, H12, put, nx⟩ => ?_
        exact putD_run (X := XB) hu I11 put r10 r11 fun s12 I12 => next I12 nx
      | false =>
        simp only [Bool.false_eq_true, ↓reduceIte] at q9 ⊢
        exact next I9 q9
  exact codeAny_compStart_dict loop (T.self X.A 0 _ _ _ stB loop)
end DL
end
section
namespace DL
open PySem PySem.Spec PyProof.Rows L2
section
variable {K : PySem.W.Frag} {mg : Str → Option Value} {Z Z' Z0 Z1 Z2 : Addr → Prop} {H H' H0 H1 H2 H3 : Hp} {O O' O1 O2 : Addr → Prop} {ρ ρ' ρ0 ρ1 ρ2 : Env} {σ σ' σ0 σ1 σ2 : L2.St} {B : Addr}

/-! ### keys -/
theorem same_keyD (a b : Key) : sameD (keyD a) (keyD b) = decide (a = b) := by
  cases a <;> cases b <;> simp only [keyD, sameD] <;> rw [Bool.eq_iff_iff] <;> simp
theorem same_keysD : ∀ (a b : List Key), sameDs (a.map keyD) (b.map keyD) = decide (a = b)
  | [], [] => rfl
  | [], _ :: _ => rfl
  | _ :: _, [] => rfl
  | a :: x, b :: y => by
    rw [List.map_cons, List.map_cons]
    unfold sameDs
    rw [same_keyD, same_keysD x y]
    by_cases h1 : a = b <;> by_cases h2 : x = y <;> simp [h1, h2]
def keyT (k : List Key) : D := .tup (k.map keyD)
theorem same_keyT (a b : List Key) : sameD (keyT a) (keyT b) = decide (a = b) := by
  unfold keyT sameD
  exact same_keysD a b
def keyO : D → Option Key
  | .int i => some (.inl i)
  | .str x => some (.inr x)
  | _ => none
def keysO : List D → Option (List Key)
  | [] => some []
  | d :: r => match keyO d, keysO r with
    | some k, some ks => some (k :: ks)
    | _, _ => none
theorem keyO_ok {d : D} {k : Key} (h : keyO d = some k) : d = keyD k := by
  cases d <;> cases h <;> rfl
theorem keysO_ok : ∀ {l : List D} {ks : List Key}, keysO l = some ks → l = ks.map keyD
  | [], _, h => by cases h; rfl
  | d :: r, ks, h => by
    unfold keysO at h
    cases e1 : keyO d with
    | none => simp only [e1] at h; cases h
    | some k =>
      cases e2 : keysO r with
      | none => simp only [e1, e2] at h; cases h
      | some t =>
        simp only [e1, e2] at h
        cases h
        rw [keyO_ok e1, keysO_ok e2]; rfl
theorem den_keyV {v : V} {k : Key} (h : Pk K mg Z H v (keyD k)) : v = kV k := by
  cases k with
  | inl i => exact h.int
  | inr x => exact h.str
theorem den_keysV : ∀ {vs : List V} {k : List Key}, DenAll K mg Z H vs (k.map keyD) → vs = k.map kV
  | _, [], .nil => rfl
  | _, k :: r, h => by
    rw [List.map_cons] at h
    cases h with
    | cons h t => rw [den_keyV (.inl h), den_keysV t]; rfl

/-! ### dicts as lists of pairs -/
/-- sameD, the quick way -/
def sameQs : List D → List D → Bool
  | [], [] => true
  | .int i :: r, .int j :: t => (i == j) && sameQs r t
  | d :: r, e :: t => sameD d e && sameQs r t
  | _, _ => false
def sameQ : D → D → Bool
  | .int i, .int j => i == j
  | .tup a, .tup b => sameQs a b
  | d, e => sameD d e
theorem sameQs_eq : ∀ a b : List D, sameQs a b = sameDs a b
  | [], [] => by simp only [sameQs, sameDs]
  | [], _ :: _ => by simp only [sameQs, sameDs]
  | _ :: _, [] => by simp only [sameQs, sameDs]
  | d :: r, e :: t => by
    have ih := sameQs_eq r t
    cases d <;> cases e <;> simp only [sameQs, sameDs, sameD, ih]
theorem sameQ_eq (d e : D) : sameQ d e = sameD d e := by
  cases d <;> cases e <;> simp only [sameQ, sameD, sameQs_eq]
def anyQ (k : D) : List (D × D) → Bool
  | [] => false
  | p :: r => match sameQ p.1 k with
    | true => true
    | false => anyQ k r
theorem anyQ_eq (k : D) : ∀ l, anyQ k l = l.any fun p => sameD p.1 k
  | [] => rfl
  | p :: r => by
    unfold anyQ
    rw [List.any_cons, ← sameQ_eq, anyQ_eq k r]
    cases sameQ p.1 k <;> rfl
def putD (l : List (D × D)) (k v : D) : List (D × D) := match anyQ k l with
  | true => l.map fun p => if sameD p.1 k = true then (p.1, v) else p
  | false => l ++ [(k, v)]
theorem putD_eq (l : List (D × D)) (k v : D) : putD l k v = if (l.any fun p => sameD p.1 k) = true then l.map fun p => if sameD p.1 k = true then (p.1, v) else p else l ++ [(k, v)] := by
  unfold putD
  rw [anyQ_eq]
  cases (l.any fun p => sameD p.1 k) <;> rfl
/-- the same, the last one first -/
def putR (l : List (D × D)) (k v : D) : List (D × D) := match anyQ k l with
  | true => l.map fun p => if sameD p.1 k = true then (p.1, v) else p
  | false => (k, v) :: l
theorem putR_eq (l : List (D × D)) (k v : D) : (putR l k v).reverse = putD l.reverse k v := by
  unfold putR putD
  rw [anyQ_eq, anyQ_eq, List.any_reverse]
  cases (l.any fun p => sameD p.1 k) with
  | true => exact List.map_reverse.symm
  | false => exact List.reverse_cons
/-! keys told by numbers: quick to compare -/
def codeL : List D → Option Nat
  | [] => some 0
  | .int (.ofNat i) :: r => match Nat.blt i 63, codeL r with
    | true, some m => some (m * 64 + (i + 1))
    | _, _ => none
  | _ => none
def code : D → Option Nat
  | .int (.ofNat i) => some (2 * i)
  | .tup l => match codeL l with
    | some m => some (2 * m + 1)
    | none => none
  | _ => none
theorem codeL_cons {d : D} {r : List D} {c : Nat} (h : codeL (d :: r) = some c) : ∃ i m, d = .int (.ofNat i) ∧ i < 63 ∧ codeL r = some m ∧ c = m * 64 + (i + 1) := by
  unfold codeL at h
  split at h
  · rename_i e; cases e
  · rename_i i t e
    cases e
    cases h1 : Nat.blt i 63 with
    | false => simp only [h1] at h; cases h
    | true =>
      cases h2 : codeL r with
      | none => simp only [h1, h2] at h; cases h
      | some m =>
        simp only [h1, h2] at h
        cases h
        exact ⟨i, m, rfl, by have q := h1; simp only [Nat.blt, Nat.ble_eq] at q; exact q, rfl, rfl⟩
  · cases h
theorem codeL_inj : ∀ {a b : List D} {c : Nat}, codeL a = some c → codeL b = some c → a = b
  | [], [], _, _, _ => rfl
  | [], d :: r, c, h1, h2 => by
    cases h1
    obtain ⟨i, m, _, _, _, e⟩ := codeL_cons h2
    omega
  | d :: r, [], c, h1, h2 => by
    cases h2
    obtain ⟨i, m, _, _, _, e⟩ := codeL_cons h1
    omega
  | d :: r, d' :: r', c, h1, h2 => by
    obtain ⟨i, m, e1, e2, e3, e4⟩ := codeL_cons h1
    obtain ⟨i', m', f1, f2, f3, f4⟩ := codeL_cons h2
    have ei : i = i' := by omega
    have em : m = m' := by omega
    subst ei em e1 f1
    rw [codeL_inj e3 f3]
theorem codeL_same : ∀ {a : List D} {c : Nat}, codeL a = some c → sameDs a a = true
  | [], _, _ => by simp only [sameDs]
  | d :: r, c, h => by
    obtain ⟨i, m, e1, e2, e3, e4⟩ := codeL_cons h
    subst e1
    simp only [sameDs, sameD, codeL_same e3, Bool.and_true]
    simp
theorem code_inj {a b : D} {c : Nat} (h1 : code a = some c) (h2 : code b = some c) : a = b := by
  have tupInv : ∀ {l : List D} {c : Nat}, code (.tup l) = some c → ∃ m, codeL l = some m ∧ c = 2 * m + 1 := fun {l c} h => by
    unfold code at h
    simp only at h
    cases e : codeL l with
    | none => rw [e] at h; cases h
    | some m => rw [e] at h; cases h; exact ⟨m, rfl, rfl⟩
  cases a with
  | int i => cases i with
    | ofNat i => cases b with
      | int j => cases j with
        | ofNat j =>
          cases h1
          have h2 : some (2 * j) = some (2 * i) := h2
          cases (show j = i by have := Option.some.inj h2; omega)
          rfl
        | negSucc j => cases h2
      | tup m =>
        cases h1
        obtain ⟨_, _, e⟩ := tupInv h2
        omega
      | _ => cases h2
    | negSucc i => cases h1
  | tup l => cases b with
    | int j => cases j with
      | ofNat j =>
        cases h2
        obtain ⟨_, _, e⟩ := tupInv h1
        omega
      | negSucc j => cases h2
    | tup m =>
      obtain ⟨m1, e1, f1⟩ := tupInv h1
      obtain ⟨m2, e2, f2⟩ := tupInv h2
      have e : m1 = m2 := by omega
      subst e
      rw [codeL_inj e1 e2]
    | _ => cases h2
  | _ => cases h1
theorem code_same {a : D} {c : Nat} (h : code a = some c) : sameD a a = true := by
  cases a with
  | int i => simp [sameD]
  | tup l =>
    unfold code at h
    simp only at h
    cases e : codeL l with
    | none => rw [e] at h; cases h
    | some m => simp only [sameD]; exact codeL_same e
  | _ => cases h
def forceN {α : Type} (n : Nat) (k : Nat → α) : α := match n with
  | 0 => k 0
  | Nat.succ m => k (Nat.succ m)
theorem forceN_eq {α : Type} (n : Nat) (k : Nat → α) : forceN n k = k n := by cases n <;> rfl
def anyC (c : Nat) : List Nat → Bool
  | [] => false
  | x :: r => match Nat.beq x c with
    | true => true
    | false => anyC c r
/-- the codes of a dict's keys -/
def codes : List (D × D) → Option (List Nat)
  | [] => some []
  | p :: r => match code p.1, codes r with
    | some c, some cs => some (c :: cs)
    | _, _ => none
theorem anyC_eq {k : D} {c : Nat} (hk : code k = some c) : ∀ {l : List (D × D)} {cs : List Nat}, codes l = some cs → anyC c cs = anyQ k l
  | [], _, h => by cases h; rfl
  | p :: r, cs, h => by
    unfold codes at h
    cases e1 : code p.1 with
    | none => simp only [e1] at h; cases h
    | some x =>
      cases e2 : codes r with
      | none => simp only [e1, e2] at h; cases h
      | some xs =>
        simp only [e1, e2] at h
        cases h
        unfold anyC anyQ
        rw [anyC_eq hk e2, sameQ_eq]
        have e : sameD p.1 k = Nat.beq x c := by
          by_cases hx : x = c
          · subst hx
            rw [code_inj e1 hk, code_same hk]
            simp
          · have : Nat.beq x c = false := by
              cases eb : Nat.beq x c with
              | false => rfl
              | true => exact absurd (Nat.eq_of_beq_eq_true eb) hx
            rw [this]
            cases hs : sameD p.1 k with
            | false => rfl
            | true =>
              rw [sameD_ok _ _ hs, hk] at e1
              exact absurd (Option.some.inj e1).symm hx
        rw [e]
/-- a put with the codes at hand -/
def putC (l : List (D × D)) (cs : Option (List Nat)) (k v : D) : List (D × D) × Option (List Nat) := match cs, code k with
  | some cs, some c => forceN c fun c => match anyC c cs with
    | true => (l.map fun p => if sameD p.1 k = true then (p.1, v) else p, some cs)
    | false => ((k, v) :: l, some (c :: cs))
  | _, _ => (putR l k v, none)
/-- the codes told belong to the list -/
def CodesOf (l : List (D × D)) (cs : Option (List Nat)) : Prop := ∀ xs, cs = some xs → codes l = some xs
theorem codes_map (k v : D) : ∀ (l : List (D × D)), codes (l.map fun p => if sameD p.1 k = true then (p.1, v) else p) = codes l
  | [] => rfl
  | p :: r => by
    rw [List.map_cons]
    have e : (if sameD p.1 k = true then (p.1, v) else p).1 = p.1 := by split <;> rfl
    unfold codes
    rw [codes_map k v r, e]
theorem putC_eq {l : List (D × D)} {cs : Option (List Nat)} (h : CodesOf l cs) (k v : D) : (putC l cs k v).1 = putR l k v ∧ CodesOf (putC l cs k v).1 (putC l cs k v).2 := by
  unfold putC
  cases cs with
  | none => exact ⟨rfl, fun xs e => nomatch e⟩
  | some cs =>
    cases e : code k with
    | none => exact ⟨rfl, fun xs e => nomatch e⟩
    | some c =>
      simp only [forceN_eq]
      have hc := h cs rfl
      have ha := anyC_eq e hc
      unfold putR
      rw [← ha]
      cases anyC c cs with
      | true => exact ⟨rfl, fun xs ex => by cases ex; rw [codes_map]; exact hc⟩
      | false => exact ⟨rfl, fun xs ex => by cases ex; unfold codes; simp only [e, hc]⟩
def getD' (l : List (D × D)) (k : D) : Option D := match l with
  | [] => none
  | p :: r => if sameD p.1 k = true then some p.2 else getD' r k
inductive KD {κ : Type} (f : κ → D) (K : PySem.W.Frag) (mg : Str → Option Value) (Z : Addr → Prop) (H : Hp) : List (κ × V) → List (D × D) → Prop
  | nil : KD f K mg Z H [] []
  | cons {k : κ} {v : V} {d : D} {kvs : List (κ × V)} {l : List (D × D)} : Den K mg Z H v d → KD f K mg Z H kvs l → KD f K mg Z H ((k, v) :: kvs) ((f k, d) :: l)
section
variable {κ : Type} {f : κ → D}
theorem KD.of : ∀ {kvs : List (κ × V)} {l : List (D × D)}, l.map Prod.fst = kvs.map (fun p => f p.1) → DenAll K mg Z H (kvs.map Prod.snd) (l.map Prod.snd) → KD f K mg Z H kvs l
  | [], [], _, _ => .nil
  | [], _ :: _, e, _ => by cases e
  | _ :: _, [], e, _ => by cases e
  | (k, v) :: kvs, (a, d) :: l, e, t => by
    rw [List.map_cons, List.map_cons] at e t
    injection e with e1 e2
    have e1 : a = f k := e1
    subst e1
    cases t with
    | cons h t => exact .cons h (KD.of e2 t)
theorem KD.keys {kvs : List (κ × V)} {l : List (D × D)} (h : KD f K mg Z H kvs l) : l.map Prod.fst = kvs.map (fun p => f p.1) := by
  induction h with
  | nil => rfl
  | cons _ _ ih => rw [List.map_cons, List.map_cons, ih]
theorem KD.vals {kvs : List (κ × V)} {l : List (D × D)} (h : KD f K mg Z H kvs l) : DenAll K mg Z H (kvs.map Prod.snd) (l.map Prod.snd) := by
  induction h with
  | nil => exact .nil
  | cons h _ ih => rw [List.map_cons, List.map_cons]; exact .cons h ih
theorem KD.len {kvs : List (κ × V)} {l : List (D × D)} (h : KD f K mg Z H kvs l) : kvs.length = l.length := by
  induction h with
  | nil => rfl
  | cons _ _ ih => rw [List.length_cons, List.length_cons, ih]
theorem KD.step {kvs : List (κ × V)} {l : List (D × D)} (hk : Kept H H' O) (hz : ∀ a, Z a → Z' a) (hO : ∀ a, O a → ¬ Z a ∧ Mut (H a)) (h : KD f K mg Z H kvs l) : KD f K mg Z' H' kvs l := by
  induction h with
  | nil => exact .nil
  | cons h _ ih => exact .cons (h.step hk hz hO) ih
variable [DecidableEq κ] (hf : ∀ a b, sameD (f a) (f b) = decide (a = b))
include hf
theorem KD.any {kvs : List (κ × V)} {l : List (D × D)} (h : KD f K mg Z H kvs l) (k : κ) : (l.any fun p => sameD p.1 (f k)) = kvs.any fun kv => decide (kv.1 = k) := by
  induction h with
  | nil => rfl
  | cons h _ ih => rw [List.any_cons, List.any_cons, ih, hf]
theorem KD.repl {kvs : List (κ × V)} {l : List (D × D)} (h : KD f K mg Z H kvs l) (k : κ) {v : V} {d : D} (hv : Den K mg Z H v d) : KD f K mg Z H (kvs.map fun kv => if kv.1 = k then (kv.1, v) else kv) (l.map fun p => if sameD p.1 (f k) = true then (p.1, d) else p) := by
  induction h with
  | nil => exact .nil
  | @cons a u e kvs l hu t ih =>
    rw [List.map_cons, List.map_cons]
    by_cases q : a = k
    · rw [if_pos q, if_pos (by rw [hf]; exact decide_eq_true q)]
      exact .cons hv ih
    · rw [if_neg q, if_neg (by rw [hf, decide_eq_false q]; exact Bool.false_ne_true)]
      exact .cons hu ih
omit [DecidableEq κ] hf in
theorem KD.snoc {kvs : List (κ × V)} {l : List (D × D)} (h : KD f K mg Z H kvs l) (k : κ) {v : V} {d : D} (hv : Den K mg Z H v d) : KD f K mg Z H (kvs ++ [(k, v)]) (l ++ [(f k, d)]) := by
  induction h with
  | nil => exact .cons hv .nil
  | cons hu t ih => exact .cons hu ih
theorem KD.put {kvs : List (κ × V)} {l : List (D × D)} (h : KD f K mg Z H kvs l) (k : κ) {v : V} {d : D} (hv : Den K mg Z H v d) : KD f K mg Z H (putK kvs k v) (putD l (f k) d) := by
  unfold putK
  rw [putD_eq]
  rw [h.any hf k]
  split
  · exact h.repl hf k hv
  · exact h.snoc k hv
theorem KD.get {kvs : List (κ × V)} {l : List (D × D)} (h : KD f K mg Z H kvs l) (k : κ) : match getD' l (f k) with
    | some d => ∃ v, valV kvs k = some v ∧ Den K mg Z H v d
    | none => valV kvs k = none := by
  induction h with
  | nil => exact rfl
  | @cons a u e kvs l hu t ih =>
    unfold getD'
    by_cases q : a = k
    · rw [if_pos (by rw [hf]; exact decide_eq_true q)]
      exact ⟨u, valV_pos q, hu⟩
    · rw [if_neg (by rw [hf, decide_eq_false q]; exact Bool.false_ne_true), valV_neg (p := (a, u)) q]
      exact ih
end
theorem KD.cont {a : Addr} {kvs : List (Key × V)} {l : List (D × D)} (h : KD keyD K mg Z H kvs l) (r : Rd H a (.dK kvs)) : Cont K mg Z H a (.dct l) := .dK r h.keys h.vals
theorem KD.contT {a : Addr} {kvs : List (List Key × V)} {l : List (D × D)} (h : KD keyT K mg Z H kvs l) (r : Rd H a (.dT kvs)) : Cont K mg Z H a (.dct l) := .dT r h.keys h.vals
end

/-! ### dict comprehensions -/
section
variable {K : PySem.W.Frag} {mg : Str → Option Value} {Z Z' Z0 Z1 Z2 : Addr → Prop} {H H' H0 H1 H2 H3 : Hp} {O O' O1 O2 : Addr → Prop} {ρ ρ' ρ0 ρ1 ρ2 : Env} {σ σ' σ0 σ1 σ2 : L2.St} {B : Addr}
/-- a key of the wanted kind -/
def kOk (t : Bool) : D → Bool
  | .int _ => !t
  | .str _ => !t
  | .tup l => t && (keysO l).isSome
  | _ => false
def mDcL (t : Bool) (vs : List Nat) (g : MG) (mt : MT) (mk mv : ME) : List D → List (D × D) → Env → Res (List (D × D) × Env)
  | [], acc, ρ => .ok (acc, ρ)
  | d :: ds, acc, ρ => match g d ρ with
    | none => .stuck
    | some ρ1 => (noX (mt ρ1)).bind fun p => if p.1 = true then (noX (mk p.2)).bind fun q => match frz1 q.1 q.2 with
        | some (k, ρ2) => if kOk t k = true then (noX (mv ρ2)).bind fun r => match frz1 r.1 r.2 with
            | some (v, ρ3) => mDcL t vs g mt mk mv ds (putD acc k v) (wipeE ρ3 vs)
            | none => .stuck
          else .stuck
        | none => .stuck
      else mDcL t vs g mt mk mv ds acc (wipeE p.2 vs)
def orS {α : Type} : Res α → Res α → Res α
  | .stuck, r => r
  | r, _ => r
def mDcR (t : Bool) (vs : List Nat) (g : MG) (mt : MT) (mk mv : ME) : List D → List (D × D) × Option (List Nat) → Env → Res (List (D × D) × Env)
  | [], acc, ρ => .ok (acc.1.reverse, ρ)
  | d :: ds, acc, ρ => match g d ρ with
    | none => .stuck
    | some ρ1 => (noX (mt ρ1)).bind fun p => if p.1 = true then (noX (mk p.2)).bind fun q => match frz1 q.1 q.2 with
        | some (k, ρ2) => if kOk t k = true then (noX (mv ρ2)).bind fun r => match frz1 r.1 r.2 with
            | some (v, ρ3) => mDcR t vs g mt mk mv ds (putC acc.1 acc.2 k v) (wipeE ρ3 vs)
            | none => .stuck
          else .stuck
        | none => .stuck
      else mDcR t vs g mt mk mv ds acc (wipeE p.2 vs)
theorem mDcR_eq (t : Bool) (vs : List Nat) (g : MG) (mt : MT) (mk mv : ME) : ∀ (ds : List D) (acc : List (D × D)) (cs : Option (List Nat)) (ρ : Env), CodesOf acc cs → mDcR t vs g mt mk mv ds (acc, cs) ρ = mDcL t vs g mt mk mv ds acc.reverse ρ
  | [], _, _, _, _ => rfl
  | d :: ds, acc, cs, ρ, h => by
    unfold mDcR mDcL
    cases g d ρ with
    | none => rfl
    | some ρ1 =>
      have nx : ∀ k v ρ, mDcR t vs g mt mk mv ds (putC acc cs k v) ρ = mDcL t vs g mt mk mv ds (putD acc.reverse k v) ρ := fun k v ρ => by
        obtain ⟨e, hc⟩ := putC_eq h k v
        have := mDcR_eq t vs g mt mk mv ds (putC acc cs k v).1 (putC acc cs k v).2 ρ hc
        rw [← putR_eq, ← e]
        exact this
      simp only [nx, mDcR_eq t vs g mt mk mv ds acc cs _ h]
def mDc (vs : List Nat) (mi : MI) (g : MG) (mt : MT) (mk mv : ME) : ME := fun ρ => (mi ρ).bind fun p =>
  if okOwn p.2 vs = true ∧ p.1.length ≤ 1000000 then (orS (mDcR false vs g mt mk mv p.1 ([], some []) (wipeE p.2 vs)) (mDcR true vs g mt mk mv p.1 ([], some []) (wipeE p.2 vs))).bind fun r => .ok (.ow (.dct r.1), back p.2 r.2 vs) else .stuck
theorem mDc_eq (vs : List Nat) (mi : MI) (g : MG) (mt : MT) (mk mv : ME) : mDc vs mi g mt mk mv = fun ρ => (mi ρ).bind fun p =>
    if okOwn p.2 vs = true ∧ p.1.length ≤ 1000000 then (orS (mDcL false vs g mt mk mv p.1 [] (wipeE p.2 vs)) (mDcL true vs g mt mk mv p.1 [] (wipeE p.2 vs))).bind fun r => .ok (.ow (.dct r.1), back p.2 r.2 vs) else .stuck := by
  unfold mDc
  have c0 : CodesOf [] (some []) := fun xs e => e
  simp only [mDcR_eq _ _ _ _ _ _ _ _ _ _ c0, List.reverse_nil]
/-- the dict at D as it grows -/
def DcAt (t : Bool) (K : PySem.W.Frag) (mg : Str → Option Value) (Z : Addr → Prop) (H : Hp) (D : Addr) (l : List (DL.D × DL.D)) : Prop :=
  if t = true then ∃ kvs : List (List Key × V), H D = some (.dT kvs) ∧ KD keyT K mg Z H kvs l else ∃ kvs : List (Key × V), H D = some (.dK kvs) ∧ KD keyD K mg Z H kvs l
theorem DcAt.ob {t : Bool} {D : Addr} {l : List (DL.D × DL.D)} (h : DcAt t K mg Z H D l) : ∃ o, H D = some o ∧ Mut (some o) ∧ Cont K mg Z H D (.dct l) := by
  unfold DcAt at h
  cases t with
  | true =>
    obtain ⟨kvs, e, k⟩ := h
    exact ⟨_, e, True.intro, k.contT (.inl e)⟩
  | false =>
    obtain ⟨kvs, e, k⟩ := h
    exact ⟨_, e, True.intro, k.cont (.inl e)⟩
theorem DcAt.step {t : Bool} {D : Addr} {l : List (DL.D × DL.D)} (h : DcAt t K mg Z H D l) (hk : Kept H H' O) (hz : ∀ a, Z a → Z' a) (hO : ∀ a, O a → ¬ Z a ∧ Mut (H a)) (hd : H' D = H D) : DcAt t K mg Z' H' D l := by
  unfold DcAt at h ⊢
  cases t with
  | true =>
    obtain ⟨kvs, e, k⟩ := h
    exact ⟨kvs, hd.trans e, k.step hk hz hO⟩
  | false =>
    obtain ⟨kvs, e, k⟩ := h
    exact ⟨kvs, hd.trans e, k.step hk hz hO⟩
theorem putD_len (l : List (DL.D × DL.D)) (k v : DL.D) : (putD l k v).length ≤ l.length + 1 := by
  rw [putD_eq]
  split
  · rw [List.length_map]; omega
  · rw [List.length_append, List.length_singleton]; exact Nat.le_refl _
/-- the store -/
theorem DcAt.put {t : Bool} {D : Addr} {l : List (DL.D × DL.D)} {y v : V} {k d : DL.D} (h : DcAt t K mg Z H D l) (hl : l.length < 1000000) (nz : ¬ Z D) (hy : Den K mg Z H y k) (ho : kOk t k = true) (hv : Den K mg Z H v d) :
    ∃ ob, Mut (some ob) ∧ DPut H D y v (upd H D ob) ∧ DcAt t K mg Z (upd H D ob) D (putD l k d) := by
  have hs : sizeLine = 16777216 := sizeLine_eq
  unfold DcAt at h ⊢
  have up : ∀ {ob : HO} {κ : Type} {f : κ → DL.D} {kvs : List (κ × V)} {m : List (DL.D × DL.D)}, Mut (H D) → KD f K mg Z H kvs m → KD f K mg Z (upd H D ob) kvs m := fun {ob κ f kvs m} mu q =>
    q.step (O := fun c => c = D) (fun c u e n => .inl (by rw [upd_ne n]; exact e)) (fun _ z => z) fun c e => by rw [e]; exact ⟨nz, mu⟩
  cases t with
  | true =>
    obtain ⟨kvs, e, q⟩ := h
    cases k with
    | tup m =>
      have ho : (keysO m).isSome = true := ho
      cases ek : keysO m with
      | none => rw [ek] at ho; cases ho
      | some ks =>
        have em := keysO_ok ek
        subst em
        obtain ⟨b, xs, rfl, hb, tb⟩ := Pk.tupX (.inl hy)
        have ex := den_keysV tb
        subst ex
        refine ⟨.dT (putK kvs ks v), True.intro, .inr ⟨kvs, ks, b, e, rfl, hb, by rw [q.len]; omega, rfl⟩, ?_⟩
        exact ⟨_, upd_same, up (by rw [e]; exact True.intro) (q.put same_keyT ks hv)⟩
    | _ => cases ho
  | false =>
    obtain ⟨kvs, e, q⟩ := h
    have key : ∀ (k' : Key), k = keyD k' → ∃ ob, Mut (some ob) ∧ DPut H D y v (upd H D ob) ∧ ∃ kvs : List (Key × V), (upd H D ob) D = some (.dK kvs) ∧ KD keyD K mg Z (upd H D ob) kvs (putD l k d) := fun k' ek => by
      subst ek
      refine ⟨.dK (putK kvs k' v), True.intro, .inl ⟨kvs, k', e, den_keyV (.inl hy), by rw [q.len]; omega, rfl⟩, ?_⟩
      exact ⟨_, upd_same, up (by rw [e]; exact True.intro) (q.put same_keyD k' hv)⟩
    cases k with
    | int i => exact key (.inl i) rfl
    | str i => exact key (.inr i) rfl
    | _ => cases ho
/-- over any walk -/
theorem dg_it {J : It} {n : Nat} {G : Hp → Prop} {Y : Nat → Hp → V → Hp → Prop} (w : Walk J n G Y) {g : TG} {tt : TT} {tk tv : TE} {vs : List Nat} {σ : L2.St} {H1 : Hp} {D : Addr} {u0 : HO} {Qd : Hp → Prop} (Pv : Nat → Hp → Prop) (h0 : Pv 0 (upd H1 D u0)) (hG : ∀ i H, i ≤ n → Pv i H → G H)
    (hs : ∀ i x H H', i < n → Pv i H → Y i H x H' → g x (wipe σ vs) H' fun σ2 H2 => wipe σ2 vs = wipe σ vs ∧ tt σ2 H2 fun b H3 =>
      if b = true then tk σ2 H3 fun y H4 => tv σ2 H4 fun z H5 => ∃ H6, DPut H5 D y z H6 ∧ Pv (i + 1) H6 else Pv (i + 1) H3) (hd : ∀ H, Pv n H → Qd H) :
    ∃ W : Nat → Nat → Hp → Prop, (∃ m, W 0 m (upd H1 D u0)) ∧ ∀ i m H, W i m H →
      (J.stop i H ∧ Qd H) ∨ (J.go i H ∧ ∃ Nx : Hp → Prop, (∀ H', Nx H' → ∃ m', m' < m ∧ W (i + 1) m' H') ∧ ∀ x H', J.yld i H x H' → g x (wipe σ vs) H' fun σ2 H2 => wipe σ2 vs = wipe σ vs ∧ tt σ2 H2 fun b H3 =>
        if b = true then tk σ2 H3 fun y H4 => tv σ2 H4 fun z H5 => ∃ H6, DPut H5 D y z H6 ∧ Nx H6 else Nx H3) := by
  refine ⟨fun i m H => m + i = n ∧ Pv i H, ⟨n, Nat.add_zero n, h0⟩, ?_⟩
  intro i m H ⟨hm, p⟩
  have hle : i ≤ n := by omega
  rcases Nat.lt_or_ge i n with hlt | hge
  · exact .inr ⟨w.goes i H hlt (hG i H hle p), Pv (i + 1), fun H' p' => ⟨n - (i + 1), by omega, by omega, p'⟩, fun x H' y => hs i x H H' hlt p (w.yields i H x H' hlt (hG i H hle p) y)⟩
  · have e : i = n := Nat.le_antisymm hle hge
    rw [e] at p ⊢
    exact .inl ⟨w.stops H (hG n H (Nat.le_refl _) p), hd H p⟩
end
end DL
end
section
namespace DL
open PySem PySem.Spec PyProof.Rows L2
section
variable {K : PySem.W.Frag} {mg : Str → Option Value} {Z Z' Z0 Z1 Z2 : Addr → Prop} {H H' H0 H1 H2 H3 : Hp} {O O' O1 O2 : Addr → Prop} {ρ ρ' ρ0 ρ1 ρ2 : Env} {σ σ' σ0 σ1 σ2 : L2.St} {B : Addr}

theorem dc_run {W : WX} {t : Bool} {vs vsT : List Nat} {g : MG} {mt : MT} {mk mv : ME} {σ : L2.St} {Q : VK} (hsub : ∀ i ∈ vsT, i ∈ vs) {ds : List D} {J : It} {D : Addr} (rel : Rel K mg B Z H ρ σ) (rel1 : Rel K mg B Z1 H1 ρ1 σ) (s1 : Step Z H (Od ρ σ) Z1 H1 (Od ρ1 σ)) (wk : Wk K mg Z1 H1 (Od ρ1 σ) J ds) (hD : H1 D = none)
    (hown : okOwn ρ1 vs = true) (hlen : ds.length ≤ 1000000)
    (h : Fin K mg W (fun Z' H' ρ' v r => RDen K mg H Z' H' ρ' σ v r) B Z H ρ σ ((mDcL t vs g mt mk mv ds [] (wipeE ρ1 vs)).bind fun r => .ok (.ow (.dct r.1), back ρ1 r.2 vs)) Q) :
    ∃ u0, New0 u0 ∧ ∃ W : Nat → Nat → Hp → Prop, (∃ m, W 0 m (upd H1 D u0)) ∧ ∀ i m H, W i m H →
      (J.stop i H ∧ Q (.ref D) H) ∨ (J.go i H ∧ ∃ Nx : Hp → Prop, (∀ H', Nx H' → ∃ m', m' < m ∧ W (i + 1) m' H') ∧ ∀ x H', J.yld i H x H' → gD K mg vsT g x (wipe σ vs) H' fun σ2 H2 => wipe σ2 vs = wipe σ vs ∧ tT K mg W0 mt σ2 H2 fun b H3 =>
        if b = true then tD K mg W0 mk σ2 H3 fun y H4 => tD K mg W0 mv σ2 H4 fun z H5 => ∃ H6, DPut H5 D y z H6 ∧ Nx H6 else Nx H3) := by
  obtain ⟨G, Y, wk, hG, hY⟩ := wk
  obtain ⟨relw, ow⟩ := rel_wipe (vs := vs) rel1
  have nzD : ¬ Z1 D := fun z => rel1.dom D z hD
  have noD : ¬ Od ρ1 σ D := fun o => mut_some (rel1.owned D o).2 hD
  have noW : ¬ Od (wipeE ρ1 vs) (wipe σ vs) D := fun o => noD (ow D o)
  have st0 : ∀ {u0}, Rel K mg B Z1 (upd H1 D u0) (wipeE ρ1 vs) (wipe σ vs) ∧ Step Z1 H1 (Od (wipeE ρ1 vs) (wipe σ vs)) Z1 (upd H1 D u0) (Od (wipeE ρ1 vs) (wipe σ vs)) := fun {u0} => rel_new relw (upd_keeps hD)
  refine ⟨if t = true then .dT [] else .dK [], ?_, dg_it wk (fun i H' => ∃ Z' ρ' acc, Rel K mg B Z' H' ρ' (wipe σ vs) ∧ Step Z1 H1 (Od (wipeE ρ1 vs) (wipe σ vs)) Z' H' (Od ρ' (wipe σ vs)) ∧ DcAt t K mg Z' H' D acc ∧ acc.length ≤ i ∧ ¬ Z' D ∧ ¬ Od ρ' (wipe σ vs) D ∧
      Fin K mg W (fun Z' H' ρ' v r => RDen K mg H Z' H' ρ' σ v r) B Z H ρ σ ((mDcL t vs g mt mk mv (ds.drop i) acc ρ').bind fun r => .ok (.ow (.dct r.1), back ρ1 r.2 vs)) Q)
    ⟨Z1, wipeE ρ1 vs, [], st0.1, st0.2, ?_, Nat.le_refl _, nzD, noW, h⟩ (fun i H' _ ⟨Z', ρ', acc, rel', st', _⟩ => hG Z' H' (Od ρ' (wipe σ vs)) ?_) (fun i x H' H3 hi ⟨Z', ρ', acc, rel', st', hacc, hal, nz', no', h'⟩ y => ?_) fun H' ⟨Z', ρ', acc, rel', st', hacc, hal, nz', no', h'⟩ => ?_⟩
  · cases t with
    | true => exact .inr rfl
    | false => exact .inl rfl
  · unfold DcAt
    cases t with
    | true => exact ⟨[], by rw [upd_same]; rfl, .nil⟩
    | false => exact ⟨[], by rw [upd_same]; rfl, .nil⟩
  · exact ⟨fun a o e n nz => st'.k1 a o e (fun q => n (ow a q)) nz, fun a o e n => st'.k2 a o e (fun q => n (ow a q)), st'.z, fun a z => (st'.n a z).elim .inl fun q => q.elim (fun q => .inr (.inl q)) fun q => .inr (.inr (ow a q)), fun a z => (st'.o a z).elim .inl fun q => .inr (ow a q), st'.p, st'.d⟩
  · obtain ⟨k, d, ed, hd⟩ := hY i Z' H' (Od ρ' (wipe σ vs)) x H3 hi ⟨fun a o e n nz => st'.k1 a o e (fun q => n (ow a q)) nz, fun a o e n => st'.k2 a o e (fun q => n (ow a q)), st'.z, fun a z => (st'.n a z).elim .inl fun q => q.elim (fun q => .inr (.inl q)) fun q => .inr (.inr (ow a q)), fun a z => (st'.o a z).elim .inl fun q => .inr (ow a q), st'.p, st'.d⟩ y
    have hdrop : ds.drop i = d :: ds.drop (i + 1) := by
      have hl : i < ds.length := hi
      rw [List.drop_eq_getElem_cons hl]
      rw [List.getElem?_eq_getElem hl] at ed
      cases ed; rfl
    rw [hdrop] at h'
    obtain ⟨rel3, s3⟩ := rel_new rel' k
    simp only [mDcL] at h'
    cases e1 : g d ρ' with
    | none => rw [e1] at h'; exact h'.elim
    | some ρ4 =>
      rw [e1] at h'
      refine ⟨B, Z', ρ', d, ρ4, rel3, hd, e1, fun σ5 Z5 H5 rel5 st5 bu => ?_⟩
      have hw : wipe σ5 vs = wipe σ vs := wipe_but (bu.mono hsub)
      refine ⟨hw, B, Z5, ρ4, rel5, ?_⟩
      simp only at h'
      cases e2 : mt ρ4 with
      | stuck => rw [e2] at h'; exact h'.elim
      | exc x => rw [e2] at h'; exact h'.elim
      | ok p =>
        obtain ⟨b, ρ6⟩ := p
        rw [e2] at h'
        simp only [noX, Res.bind] at h'
        intro v Z7 H7 rel7 st7 dv
        subst dv
        have s7 : Step Z' H' (Od ρ' (wipe σ vs)) Z7 H7 (Od ρ6 σ5) := (s3.trans st5).trans st7
        obtain ⟨o0, eo, _, _⟩ := hacc.ob
        cases v with
        | false =>
          rw [if_neg (by simp)] at h' ⊢
          obtain ⟨k7, nz7, no7⟩ := far_kept s7 eo nz' no'
          obtain ⟨relw7, ow7⟩ := rel_wipe (vs := vs) rel7
          rw [hw] at relw7 ow7
          exact ⟨Z7, wipeE ρ6 vs, acc, relw7, (st'.trans s7).own fun a q => (st'.trans s7).o a (ow7 a q), hacc.step s7.k2 s7.z rel'.owned (k7.trans eo.symm), by omega, nz7, fun q => no7 (ow7 D q), h'⟩
        | true =>
          rw [if_pos rfl] at h' ⊢
          refine ⟨B, Z7, ρ6, rel7, ?_⟩
          cases e3 : mk ρ6 with
          | stuck => rw [e3] at h'; exact h'.elim
          | exc x => rw [e3] at h'; exact h'.elim
          | ok p =>
            obtain ⟨r, ρ8⟩ := p
            rw [e3] at h'
            simp only [noX, Res.bind] at h'
            intro u Z9 H9 rel9 st9 rd
            cases e4 : frz1 r ρ8 with
            | none => rw [e4] at h'; exact h'.elim
            | some q =>
              obtain ⟨kd, ρ10⟩ := q
              rw [e4] at h'
              simp only at h'
              by_cases hko : kOk t kd = true
              · rw [if_pos hko] at h'
                have s9 := s7.trans st9
                obtain ⟨Z10, rel10, s10, hy⟩ := frz_raw (fun a q => .inl (none_back s7 q)) rel9 s9 rd e4
                refine ⟨B, Z10, ρ10, rel10, ?_⟩
                cases e5 : mv ρ10 with
                | stuck => rw [e5] at h'; exact h'.elim
                | exc x => rw [e5] at h'; exact h'.elim
                | ok p =>
                  obtain ⟨r2, ρ11⟩ := p
                  rw [e5] at h'
                  simp only [noX, Res.bind] at h'
                  intro u2 Z11 H11 rel11 st11 rd2
                  cases e6 : frz1 r2 ρ11 with
                  | none => rw [e6] at h'; exact h'.elim
                  | some q =>
                    obtain ⟨vd, ρ12⟩ := q
                    rw [e6] at h'
                    simp only at h'
                    obtain ⟨Z12, rel12, s12, hv⟩ := frz_raw (fun a q => .inl q) rel11 st11 rd2 e6
                    have hy2 := rel10.den s12 hy
                    have s13 := s10.trans s12
                    obtain ⟨k12, nz12, no12⟩ := far_kept s13 eo nz' no'
                    obtain ⟨relw12, ow12⟩ := rel_wipe (vs := vs) rel12
                    rw [hw] at relw12 ow12
                    have hlt : acc.length < 1000000 := by
                      have h1 : i < ds.length := hi
                      omega
                    obtain ⟨ob, mu, put, acc'⟩ := (hacc.step s13.k2 s13.z rel'.owned (k12.trans eo.symm)).put hlt nz12 hy2 hko hv
                    have m12 : Mut (H11 D) := by
                      obtain ⟨o1, eo1, mo1, _⟩ := hacc.ob
                      rw [eo] at eo1
                      cases eo1
                      rw [k12]; exact mo1
                    have pl := putD_len acc kd vd
                    exact ⟨upd H11 D ob, put, Z12, wipeE ρ12 vs, putD acc kd vd, rel_far relw12 nz12 (fun q => no12 (ow12 D q)) m12, step_far ((st'.trans s13).own fun a q => (st'.trans s13).o a (ow12 a q)) hD, acc', by omega, nz12, fun q => no12 (ow12 D q), h'⟩
              · rw [if_neg hko] at h'
                exact h'.elim
  · have ed : ds.drop ds.length = [] := List.drop_length
    rw [ed] at h'
    obtain ⟨relb, sb, ob⟩ := rel_back rel1 hown rel' st'
    obtain ⟨o0, eo, mu, c⟩ := hacc.ob
    exact h' (.ref D) Z' H' relb (s1.trans sb) ⟨D, rfl, none_back s1 hD, nz', by rw [eo]; exact mu, fun q => no' (ob D q), c⟩
theorem dc_ok {W : WX} {vs vsT : List Nat} {mi : MI} {g : MG} {mt : MT} {mk mv : ME} {σ : L2.St} {H : Hp} {Q : VK} (hsub : ∀ i ∈ vsT, i ∈ vs) (h : tD K mg W (mDc vs mi g mt mk mv) σ H Q) :
    tDg (tI K mg W mi) (gD K mg vsT g) (tT K mg W0 mt) (tD K mg W0 mk) (tD K mg W0 mv) vs σ H Q := by
  obtain ⟨B, Z, ρ, rel, h⟩ := h
  refine ⟨B, Z, ρ, rel, ?_⟩
  rw [mDc_eq] at h
  simp only at h
  cases e : mi ρ with
  | stuck => rw [e] at h; exact h
  | exc x => rw [e] at h; exact h
  | ok p =>
    obtain ⟨ds, ρ1⟩ := p
    rw [e] at h
    simp only [Res.bind] at h
    intro J Z1 H1 rel1 s1 wk D hD
    split at h
    · rename_i hok
      obtain ⟨hown, hlen⟩ := hok
      cases e1 : mDcL false vs g mt mk mv ds [] (wipeE ρ1 vs) with
      | stuck =>
        rw [e1] at h
        exact dc_run (W := W) (t := true) hsub rel rel1 s1 wk hD hown hlen h
      | exc x =>
        rw [e1] at h
        refine dc_run (W := W) (t := false) hsub rel rel1 s1 wk hD hown hlen ?_
        rw [e1]; exact h
      | ok p =>
        rw [e1] at h
        refine dc_run (W := W) (t := false) hsub rel rel1 s1 wk hD hown hlen ?_
        rw [e1]; exact h
    · exact h.elim
theorem de_dc {X : Cx} {W : WX} {kx vx tg iter : Expr} {ifs : List Expr} {scope : Scope} {own : List (Str × Nat)} {vsT : List Nat} {pos : Pos} {mi : MI} {g : MG} {mt : MT} {mk mv : ME} (hc : X.calm = true) (hu : X.A.units < cLine) (hN : X.N.Nodup) (hi : DI X W tg iter mi) (ok : BlkOk X.N X.env.scope scope own)
    (hg : ∀ (s : Shared) (H : Hp) (C : Addr) (cl : List (Str × Addr)) (fp : List Addr), DG (X.blk s H scope (compEnvC scope cl C X.env) fp) vsT tg g) (hsub : ∀ i ∈ vsT, i ∈ own.map (·.2))
    (ht : ∀ (s : Shared) (H : Hp) (C : Addr) (cl : List (Str × Addr)) (fp : List Addr), DPT (X.blk s H scope (compEnvC scope cl C X.env) fp) W0 ifs mt)
    (hk : ∀ (s : Shared) (H : Hp) (C : Addr) (cl : List (Str × Addr)) (fp : List Addr), DE (X.blk s H scope (compEnvC scope cl C X.env) fp) W0 kx mk)
    (he : ∀ (s : Shared) (H : Hp) (C : Addr) (cl : List (Str × Addr)) (fp : List Addr), DE (X.blk s H scope (compEnvC scope cl C X.env) fp) W0 vx mv) (hs : ∀ x, foldedSetIterable iter X.env x = pure x := by intro _; rfl) :
    DE X W (.DictComp kx vx [⟨tg, iter, ifs, 0⟩] scope pos) (mDc (own.map (·.2)) mi g mt mk mv) :=
  PE.imp (pe_dg hc hu hN hi ok hg ht hk he hs) fun _ _ _ h => dc_ok hsub h

/-! ### {}, -x, x.bit_length(), tuple(range(..)) -/
theorem de_d0 {X : Cx} {W : WX} {pos : Pos} : DE X W (.Dict [] [] pos) (mC (.dct [])) := PE.imp pe_dnewK fun σ H Q ⟨B, Z, ρ, rel, h⟩ p hp =>
  fin_new (Hs := H) (r := .dct []) rel (fun _ z => z) h ⟨upd_keeps hp, p, rfl, hp, by rw [upd_same]; exact True.intro, .dK (.inl upd_same) rfl .nil⟩
def gNeg : D → Option D
  | .int i => some (.int (-i))
  | _ => none
theorem unG_neg {X : Cx} : UnR X (unaryOp .USub) (rU1 X.K X.mg gNeg) := by
  intro pins s σ H x v Q I rx ⟨Z, d, r, dom, p1, h, q⟩
  cases d with
  | int i =>
    cases h
    exact un_neg pins s σ H x v Q I rx ⟨i, p1.int, q _ _ (.pure (.int _))⟩
  | _ => exact nomatch h
def gBits : D → Option D
  | .int i => some (.int (Builtin.Int.intBits i : Nat))
  | _ => none
theorem de_bits {X : Cx} {W : WX} {o : Expr} {apos pos : Pos} {m : ME} (ho : DE X W o m) (hbase : attributeBase o "bit_length" X.env (eval o X.env) = eval o X.env := by rfl) (hline : (apos.endLine == pos.line) = true := by rfl) :
    DE X W (.Call (.Attribute o "bit_length" apos) [] [] pos) (mUn gBits m) :=
  PE.imp (pe_bits ho hbase hline) fun _ _ _ h => tUn_ok (r1 := fun x H Q => ∃ i, x = .int i ∧ Q (.int (Builtin.Int.intBits i : Nat)) H) (fun Z H x d rr Q dom p1 h q => by
    cases d with
    | int i =>
      cases h
      exact ⟨i, p1.int, q _ _ (.pure (.int _))⟩
    | _ => exact nomatch h) h
/-- tuple(range(a)), tuple(range(a, b)) -/
theorem den_rg (a b : Int) : DenAll K mg Z H (rgV a b) (rngD a (b - a).toNat) := by
  unfold rgV rngD
  have : ∀ l : List Nat, DenAll K mg Z H (l.map fun (i : Nat) => V.int (a + (i : Nat))) (l.map fun (i : Nat) => D.int (a + (i : Int))) := fun l => by
    induction l with
    | nil => exact .nil
    | cons i r ih => exact .cons (.int _) ih
  exact this _
def rgOkB (i j : Int) : Bool := decide (-1000000 ≤ i ∧ i ≤ 1000000 ∧ -1000000 ≤ j ∧ j ≤ 1000000)
theorem rgOk_of {i j : Int} (h : rgOkB i j = true) : RgOk i j := by
  have h := of_decide_eq_true h
  exact ⟨by omega, by omega, by omega, by omega, by omega⟩
def mRg1 (wrap : List D → D) (m : ME) : ME := fun ρ => (m ρ).bind fun p => match peek p.2 p.1 with
  | some (.int j) => if rgOkB 0 j = true then .ok (mk (wrap (rngD 0 (j - 0).toNat)), p.2) else .stuck
  | _ => .stuck
def mRg2 (wrap : List D → D) (ma mb : ME) : ME := fun ρ => (ma ρ).bind fun p => (mb p.2).bind fun q => match peek q.2 p.1, peek q.2 q.1 with
  | some (.int i), some (.int j) => if rgOkB i j = true then .ok (mk (wrap (rngD i (j - i).toNat)), q.2) else .stuck
  | _, _ => .stuck
abbrev WrapOk (K : PySem.W.Frag) (mg : Str → Option Value) (wrap : List D → D) (wr : List V → HO) : Prop := ∀ {Z : Addr → Prop} {H : Hp} {q : Addr} {xs : List V} {ds : List D}, H q = none → DenAll K mg Z H xs ds → NewV K mg Z H (upd H q (wr xs)) (.ref q) (wrap ds)
theorem tRg1_ok {W : WX} {m : ME} {σ : L2.St} {H : Hp} {Q : VK} {wrap : List D → D} {wr : List V → HO} (hw : WrapOk K mg wrap wr) (h : tD K mg W (mRg1 wrap m) σ H Q) :
    tRg1 (tD K mg W m) σ H fun a b H1 => RgOk a b ∧ ∀ q, H1 q = none → Q (.ref q) (upd H1 q (wr (rgV a b))) := by
  obtain ⟨B, Z, ρ, rel, h⟩ := h
  refine opd rel h fun x Z1 H1 r ρ1 rel1 s1 dx h1 => ?_
  simp only at h1
  cases e : peek ρ1 r with
  | none => rw [e] at h1; exact h1.elim
  | some d =>
    rw [e] at h1
    cases d with
    | int j =>
      simp only at h1
      split at h1
      · rename_i ho
        exact ⟨j, (dx.pk rel1 e).int, rgOk_of ho, fun q hq => fin_new rel1 s1.p h1 (hw hq (den_rg 0 j))⟩
      · exact h1.elim
    | _ => exact h1.elim
theorem tRg2_ok {W : WX} {ma mb : ME} {σ : L2.St} {H : Hp} {Q : VK} {wrap : List D → D} {wr : List V → HO} (hw : WrapOk K mg wrap wr) (h : tD K mg W (mRg2 wrap ma mb) σ H Q) :
    tRg2 (tD K mg W ma) (tD K mg W mb) σ H fun a b H1 => RgOk a b ∧ ∀ q, H1 q = none → Q (.ref q) (upd H1 q (wr (rgV a b))) := by
  obtain ⟨B, Z, ρ, rel, h⟩ := h
  refine opd rel h fun x Z1 H1 r ρ1 rel1 s1 dx h1 => opd rel1 h1 fun y Z2 H2 r2 ρ2 rel2 s2 dy h2 => ?_
  simp only at h2
  cases e : peek ρ2 r with
  | none => rw [e] at h2; exact h2.elim
  | some d =>
    rw [e] at h2
    cases d with
    | int i =>
      cases e2 : peek ρ2 r2 with
      | none => rw [e2] at h2; exact h2.elim
      | some d2 =>
        rw [e2] at h2
        cases d2 with
        | int j =>
          simp only at h2
          split at h2
          · rename_i ho
            exact ⟨i, j, ((dx.step rel1 s2).pk rel2 e).int, (dy.pk rel2 e2).int, rgOk_of ho, fun q hq => fin_new rel2 (s1.trans s2).p h2 (hw hq (den_rg i j))⟩
          · exact h2.elim
        | _ => exact h2.elim
    | _ => exact h2.elim
theorem de_tupR1 {X : Cx} {W : WX} {a : Expr} {p p2 pos pos2 : Pos} {m : ME} (hc : X.calm = true) (hg : Gl X "tuple") (hm : X.mg "tuple" = none) (hg2 : Gl X "range") (hm2 : X.mg "range" = none) (ha : DE X W a m)
    (na : starEach [a] X.env = (false, eval a X.env) :: starEach [] X.env := by rfl) (nb : starEach [Expr.Call (.Name "range" p2) [a] [] pos2] X.env = (false, eval (Expr.Call (.Name "range" p2) [a] [] pos2) X.env) :: starEach [] X.env := by rfl) :
    DE X W (.Call (.Name "tuple" p) [.Call (.Name "range" p2) [a] [] pos2] [] pos) (mRg1 .tup m) :=
  PE.imp (pe_tupRg hc hg hm (prg_1 hg2 hm2 ha na) nb) fun _ _ _ h => tRg1_ok (wr := .tup) newTup h
theorem de_lstR1 {X : Cx} {W : WX} {a : Expr} {p p2 pos pos2 : Pos} {m : ME} (hc : X.calm = true) (hg : Gl X "list") (hm : X.mg "list" = none) (hg2 : Gl X "range") (hm2 : X.mg "range" = none) (ha : DE X W a m)
    (na : starEach [a] X.env = (false, eval a X.env) :: starEach [] X.env := by rfl) (nb : starEach [Expr.Call (.Name "range" p2) [a] [] pos2] X.env = (false, eval (Expr.Call (.Name "range" p2) [a] [] pos2) X.env) :: starEach [] X.env := by rfl) :
    DE X W (.Call (.Name "list" p) [.Call (.Name "range" p2) [a] [] pos2] [] pos) (mRg1 .lst m) :=
  PE.imp (pe_listRg hc hg hm (prg_1 hg2 hm2 ha na) nb) fun _ _ _ h => tRg1_ok (wr := .lst) newLst h
theorem de_tupR2 {X : Cx} {W : WX} {a b : Expr} {p p2 pos pos2 : Pos} {ma mb : ME} (hc : X.calm = true) (hg : Gl X "tuple") (hm : X.mg "tuple" = none) (hg2 : Gl X "range") (hm2 : X.mg "range" = none) (ha : DE X W a ma) (hb : DE X W b mb)
    (na : starEach [a, b] X.env = (false, eval a X.env) :: starEach [b] X.env := by rfl) (na2 : starEach [b] X.env = (false, eval b X.env) :: starEach [] X.env := by rfl) (hp : (backTo pos2 (starEach [b] X.env)).any (·.1) = false := by rfl)
    (nb : starEach [Expr.Call (.Name "range" p2) [a, b] [] pos2] X.env = (false, eval (Expr.Call (.Name "range" p2) [a, b] [] pos2) X.env) :: starEach [] X.env := by rfl) :
    DE X W (.Call (.Name "tuple" p) [.Call (.Name "range" p2) [a, b] [] pos2] [] pos) (mRg2 .tup ma mb) :=
  PE.imp (pe_tupRg hc hg hm (prg_2 hg2 hm2 ha hb na na2 hp) nb) fun _ _ _ h => tRg2_ok (wr := .tup) newTup h
theorem de_lstR2 {X : Cx} {W : WX} {a b : Expr} {p p2 pos pos2 : Pos} {ma mb : ME} (hc : X.calm = true) (hg : Gl X "list") (hm : X.mg "list" = none) (hg2 : Gl X "range") (hm2 : X.mg "range" = none) (ha : DE X W a ma) (hb : DE X W b mb)
    (na : starEach [a, b] X.env = (false, eval a X.env) :: starEach [b] X.env := by rfl) (na2 : starEach [b] X.env = (false, eval b X.env) :: starEach [] X.env := by rfl) (hp : (backTo pos2 (starEach [b] X.env)).any (·.1) = false := by rfl)
    (nb : starEach [Expr.Call (.Name "range" p2) [a, b] [] pos2] X.env = (false, eval (Expr.Call (.Name "range" p2) [a, b] [] pos2) X.env) :: starEach [] X.env := by rfl) :
    DE X W (.Call (.Name "list" p) [.Call (.Name "range" p2) [a, b] [] pos2] [] pos) (mRg2 .lst ma mb) :=
  PE.imp (pe_listRg hc hg hm (prg_2 hg2 hm2 ha hb na na2 hp) nb) fun _ _ _ h => tRg2_ok (wr := .lst) newLst h
end
end DL
end
section
/-! ### sorted, of any length, the empty tuple among the items -/
namespace PySem.W
open PySem PySem.Calls PyProof.Rows
section
variable {prog : Program} {w : World} {A : Around} {E : Value → Shared → Prop} {s : Shared}
def emptyT : PyData → Bool
  | .tuple [] => true
  | _ => false
def RowD (d : PyData) : Prop := ∃ l : List Int, d = .tuple (l.map .int)
theorem rows_alike {ds : List PyData} (h : ∀ d ∈ ds, RowD d) : AllAlike ds := fun d hd d' hd' => by
  obtain ⟨l, rfl⟩ := h d hd
  obtain ⟨m, rfl⟩ := h d' hd'
  show alike (.tuple _) (.tuple _) = true
  unfold alike
  exact alike_ints l m
theorem row_depth {d : PyData} (h : RowD d) : d.depth = 1 := by
  obtain ⟨l, rfl⟩ := h
  simp only [PyData.depth]
  rw [depth_ints]
/-- the first items that the sort asks for -/
theorem rows_firsts : ∀ {vs : List Value} {ds : List PyData} {M : Model} {Q : List (Option Value) → Shared → Prop}, EachIs (fun v d => ∃ as, Reads s.heap v d as) vs ds → (∀ d ∈ ds, RowD d) → (∀ os : List (Option Value), os.map Option.isSome = ds.map (fun d => !emptyT d) → Q os s) →
    wpAny M A (vs.mapM firstOfTuple') Q E s
  | _, _, _, _, .nil, _, h => by
    rw [List.mapM_nil]
    exact wpAny_pure (h [] rfl)
  | v :: vs, d :: ds, M, Q, .cons ⟨as, r⟩ t, hr, h => by
    rw [List.mapM_cons]
    obtain ⟨l, rfl⟩ := hr _ List.mem_cons_self
    refine wpAny_bind ?_
    rw [kas_first_eq]
    refine wpAny_bind ((looks_reads r).here ?_)
    have no : ¬ (dataType (PyData.tuple (l.map .int)) != Value.type "tuple") = true := by
      show ¬ (Value.type "tuple" != Value.type "tuple") = true
      decide
    rw [if_neg no]
    cases r with
    | @tuple a o xs n _ _ ho hc hd hx =>
      refine wpAny_bind (listItems_at ho hd (wpAny_pure ?_))
      refine wpAny_bind (rows_firsts t (fun d hd => hr d (List.mem_cons_of_mem _ hd)) fun os ho => wpAny_pure (h _ ?_))
      rw [List.map_cons, List.map_cons, ho]
      congr 1
      have hl := SeqAt.ReadsAll.length _ _ _ hx
      cases l with
      | nil =>
        have : xs.size = 0 := by simpa using hl
        show (xs[0]?).isSome = _
        rw [Array.getElem?_eq_none (by omega)]; rfl
      | cons i r =>
        have : xs.size = (i :: r).length := by simpa using hl
        show (xs[0]?).isSome = _
        rw [Array.getElem?_eq_getElem (by rw [this]; exact Nat.succ_pos _)]; rfl
theorem tuple_lt_call {Q : Value → Shared → Prop} {l b : Addr} {xs ys : Array Value} {e r : Nat → Bool} (hl : s.heap.IsTuple l xs) (hb : s.heap.IsTuple b ys)
    (he : ∀ j (h1 : j < xs.size) (h2 : j < ys.size), SeqAt.EqAt A.in1 s xs[j] ys[j] (e j)) (hr : ∀ j (h1 : j < xs.size) (h2 : j < ys.size), e j = false → SeqAt.RcLt A.in1 s xs[j] ys[j] (r j))
    (h : Q (.bool (SeqAt.firstLt e r (decide (xs.size < ys.size)) (List.range (min xs.size ys.size)))) s) : wpAny (model prog w) A (call (.builtin "tuple.__lt__") [.ref l, .ref b]) Q E s := by
  obtain ⟨⟨c1, d1, t1, s1⟩, o1, q1, n1, p1⟩ := hl
  obtain ⟨⟨c2, d2, t2, s2⟩, o2, q2, n2, p2⟩ := hb
  cases q1; cases p1; cases q2; cases p2
  exact call_meets F.slot_tuple_lt ⟨_, o1, rfl⟩ F.entry_tuple_lt (F.args_tuple_lt_2 _ _) (SeqAt.tuple_ltAt l b xs ys n1 n2 d1 d2 s1 s2 e r) ⟨o1, o2, he, hr, h⟩
theorem one_lt_rows {x y : Value} {d d' : PyData} {as bs : List Addr} {Q : Bool → Shared → Prop} (ra : Reads s.heap x d as) (rb : Reads s.heap y d' bs) (h1 : RowD d) (h2 : RowD d') (hu : A.units + 2 < cLine) (hq : Q (dataLt d d') s) : wpAny (model prog w) A (oneLt' true x y) Q E s := by
  have hal := rows_alike (ds := [d, d']) (fun z hz => by
    rcases List.mem_cons.mp hz with rfl | hz
    · exact h1
    · rw [List.mem_singleton.mp hz]; exact h2) d List.mem_cons_self d' (List.mem_cons_of_mem _ List.mem_cons_self)
  obtain ⟨l, rfl⟩ := h1
  obtain ⟨m, rfl⟩ := h2
  have hal : alikeAll (l.map PyData.int) (m.map PyData.int) = true := by simpa only [alike] using hal
  have dl : PyData.depthAll (l.map PyData.int) = 0 := depth_ints l
  have dm : PyData.depthAll (m.map PyData.int) = 0 := depth_ints m
  cases ra with
  | @tuple a o xs n _ _ g1 g2 g3 g4 =>
    cases rb with
    | @tuple b o' ys n' _ _ k1 k2 k3 k4 =>
      have z1 : xs.size = (l.map PyData.int).length := by simpa using SeqAt.ReadsAll.length _ _ _ g4
      have z2 : ys.size = (m.map PyData.int).length := by simpa using SeqAt.ReadsAll.length _ _ _ k4
      rw [dataLt_tuple, ← firstLt_toks _ _ hal, ← z1, ← z2] at hq
      rw [oneLt'_eq, if_pos rfl]
      refine wpAny_bind (wpAny_cRoomFor (by omega) (wpAny_bind (wpAny_callSpecialIfBound?_slot (T := "tuple") ⟨_, g1, g2⟩ F.slot_tuple_lt ?_)))
      refine tuple_lt_call (e := SeqAt.pairEq (l.map PyData.int) (m.map PyData.int)) (r := fun j => dataLt ((l.map PyData.int).getD j .none) ((m.map PyData.int).getD j .none)) ⟨_, g1, g2, _, g3⟩ ⟨_, k1, k2, _, k3⟩ (fun j j1 j2 => ?_) (fun j j1 j2 hj => ?_) (wpAny_truthy_bool hq)
      · have q := eqAt_alikeAll _ _ A.in1 s xs.toList ys.toList _ _ g4 k4 hal (by rw [dl]; show A.units + 1 + _ < _; omega) j (by simpa using j1) (by simpa using j2)
        rwa [Array.getElem_toList, Array.getElem_toList] at q
      · have q := rcLt_alikeAll _ _ A.in1 s xs.toList ys.toList _ _ g4 k4 hal (by rw [dl]; show A.units + 1 + _ < _; omega) j (by simpa using j1) (by simpa using j2) hj
        rwa [Array.getElem_toList, Array.getElem_toList] at q
/-- tuples of ints, any of them empty, can be sorted -/
theorem SortsAt.rows {vs : List Value} {ds : List PyData} (e : EachIs (fun v d => ∃ as, Reads s.heap v d as) vs ds) (hr : ∀ d ∈ ds, RowD d) (hu : A.units + 2 < cLine) : SortsAt prog w A s (dataKind s.heap ds) vs := by
  have hal := rows_alike hr
  have dep : ∀ d ∈ ds, A.units + d.depth < cLine := fun d hd => by rw [row_depth (hr d hd)]; omega
  by_cases full : ∀ d ∈ ds, emptyT d = false
  · refine SortsAt.data e hal (.inl fun d hd => ?_) dep
    obtain ⟨l, rfl⟩ := hr d hd
    cases l with
    | nil => exact absurd (full _ hd) (by simp [emptyT])
    | cons i r => exact ⟨_, _, rfl⟩
  · have lens : vs.length = ds.length := e.length
    refine ⟨fun v hv => ?_, ?_⟩
    · obtain ⟨d, hd, as, r⟩ := e.left v hv
      exact ⟨_, dataKind_some hal hd r⟩
    · cases ds with
      | nil => exact absurd (fun d hd => nomatch hd) full
      | cons d0 dr =>
        have asks : ∀ {E : Value → Shared → Prop} {Q : SortKind → Shared → Prop} {M : Model}, (emptyT d0 = false → Q general' s) → (emptyT d0 = true → Q oneType' s) → wpAny M A (keyKind' vs.toArray) Q E s := by
          intro E Q M q1 q2
          rw [kat_kind_eq vs.toArray]
          rw [List.mapM_toArray]
          rw [map_eq_pure_bind]
          refine wpAny_bind (wpAny_bind (rows_firsts e hr fun os ho => wpAny_pure ?_))
          have notAll : ¬ (os.toArray.all fun x => x.isSome) = true := fun h => full fun d hd => by
            have h1 : os.all (fun x => x.isSome) = true := by simpa using h
            have h2 : (d0 :: dr).all (fun d => !emptyT d) = true := by
              have e1 : (os.map Option.isSome).all id = true := by rw [List.all_map]; exact h1
              rw [ho, List.all_map] at e1
              exact e1
            have h3 := List.all_eq_true.mp h2 d hd
            simpa using h3
          rw [if_neg notAll]
          cases os with
          | nil => cases ho
          | cons o os =>
            rw [List.map_cons, List.map_cons] at ho
            injection ho with ho1 ho2
            have first : ((o :: os).toArray[0]?.bind id).isSome = !emptyT d0 := by
              rw [← ho1]
              simp
            cases he : emptyT d0 with
            | false =>
              rw [if_pos (by rw [first, he]; rfl)]
              exact wpAny_pure (q1 he)
            | true =>
              rw [if_neg (by rw [first, he]; exact Bool.false_ne_true)]
              rw [oneTypeOnly'_eq]
              rw [List.mapM_toArray]
              rw [map_eq_pure_bind]
              have types : ∀ v ∈ vs, ∀ (Q' : Value → Shared → Prop), Q' (Value.type "tuple") s → wpAny M A (typeOf v) Q' E s := fun v hv Q' hq => by
                obtain ⟨d, hd, as, r⟩ := e.left v hv
                obtain ⟨l, rfl⟩ := hr d hd
                exact (looks_reads r).here hq
              refine wpAny_bind (wpAny_bind (wpAny_bind (kas_mapM (r := Value.type "tuple") vs types (wpAny_pure ?_))))
              cases vs with
              | nil => cases lens
              | cons v vr =>
                have z : (((v :: vr).map fun _ => Value.type "tuple").toArray)[0]? = some (Value.type "tuple") := by simp
                rw [z]
                have yes : (((v :: vr).map fun _ => Value.type "tuple").toArray.all fun x => x == Value.type "tuple") = true := by
                  simp only [List.all_toArray, List.all_map, List.all_eq_true]
                  intro _ _
                  show (Value.type "tuple" == Value.type "tuple") = true
                  decide
                simp only [yes, ↓reduceIte]
                exact wpAny_pure (wpAny_pure (q2 he))
        cases he : emptyT d0 with
        | false =>
          refine ⟨general', fun E x y a b Q ha hb hq => ?_, fun _ E Q hq => asks (fun _ => hq) fun z => absurd z (by rw [he]; exact Bool.false_ne_true)⟩
          obtain ⟨d, as, hd, ra, rfl⟩ := dataKind_inv ha
          obtain ⟨d', as', hd', rb, rfl⟩ := dataKind_inv hb
          have nn : d ≠ .none := fun z => by
            obtain ⟨l, q⟩ := hr d hd
            rw [z] at q
            cases q
          exact oneLt_alike (f := false) (fun z => absurd z Bool.false_ne_true) ra rb (hal d hd d' hd') nn (Nat.lt_of_le_of_lt (Nat.add_le_add_left (Nat.min_le_left _ _) _) (dep d hd)) hq
        | true =>
          refine ⟨oneType', fun E x y a b Q ha hb hq => ?_, fun _ E Q hq => asks (fun z => absurd z (by rw [he]; decide)) fun _ => hq⟩
          obtain ⟨d, as, hd, ra, rfl⟩ := dataKind_inv ha
          obtain ⟨d', as', hd', rb, rfl⟩ := dataKind_inv hb
          exact one_lt_rows ra rb (hr d hd) (hr d' hd') hu hq
end
end PySem.W
end
section
namespace DL
open PySem PySem.Spec PyProof.Rows L2

/-! ### a sort that computes -/
section
variable {α : Type} (le : α → α → Bool)
def mrgN : Nat → List α → List α → List α
  | 0, as, bs => as ++ bs
  | _ + 1, [], bs => bs
  | _ + 1, as, [] => as
  | n + 1, a :: as, b :: bs => if le a b = true then a :: mrgN n as (b :: bs) else b :: mrgN n (a :: as) bs
def evens : List α → List α
  | [] => []
  | [a] => [a]
  | a :: _ :: r => a :: evens r
def odds : List α → List α
  | [] => []
  | [_] => []
  | _ :: b :: r => b :: odds r
def halve : Nat → List α → List α × List α
  | 0, l => ([], l)
  | _ + 1, [] => ([], [])
  | n + 1, a :: r => let p := halve n r; (a :: p.1, p.2)
def sortN : Nat → List α → List α
  | 0, l => l
  | _ + 1, [] => []
  | _ + 1, [a] => [a]
  | n + 1, a :: b :: r => let l := a :: b :: r; let p := halve (l.length / 2) l; mrgN le l.length (sortN n p.1) (sortN n p.2)
def chainB : List α → Bool
  | [] => true
  | [_] => true
  | a :: b :: r => le a b && chainB (b :: r)
theorem mrgN_perm : ∀ (n : Nat) (as bs : List α), (mrgN le n as bs).Perm (as ++ bs)
  | 0, _, _ => .refl _
  | _ + 1, [], bs => .refl _
  | _ + 1, a :: as, [] => by rw [List.append_nil]; exact .refl _
  | n + 1, a :: as, b :: bs => by
    unfold mrgN
    split
    · exact (mrgN_perm n as (b :: bs)).cons a
    · exact ((mrgN_perm n (a :: as) bs).cons b).trans List.perm_middle.symm
theorem halve_eq : ∀ (n : Nat) (l : List α), (halve n l).1 ++ (halve n l).2 = l
  | 0, _ => rfl
  | _ + 1, [] => rfl
  | n + 1, a :: r => by
    show a :: ((halve n r).1 ++ (halve n r).2) = _
    rw [halve_eq n r]
theorem sortN_perm : ∀ (n : Nat) (l : List α), (sortN le n l).Perm l
  | 0, _ => .refl _
  | _ + 1, [] => .refl _
  | _ + 1, [_] => .refl _
  | n + 1, a :: b :: r => by
    have h := halve_eq ((a :: b :: r).length / 2) (a :: b :: r)
    have q := (mrgN_perm le (a :: b :: r).length _ _).trans ((sortN_perm n (halve ((a :: b :: r).length / 2) (a :: b :: r)).1).append (sortN_perm n (halve ((a :: b :: r).length / 2) (a :: b :: r)).2))
    rw [h] at q
    exact q
theorem chainB_ok (tr : ∀ a b c, le a b = true → le b c = true → le a c = true) : ∀ l : List α, chainB le l = true → l.Pairwise fun a b => le a b = true
  | [], _ => .nil
  | [a], _ => List.pairwise_singleton _ _
  | a :: b :: r, h => by
    unfold chainB at h
    rw [Bool.and_eq_true] at h
    have ih := chainB_ok tr (b :: r) h.2
    refine .cons (fun c hc => ?_) ih
    rcases List.mem_cons.mp hc with e | hc
    · rw [e]; exact h.1
    · exact tr a b c h.1 ((List.pairwise_cons.mp ih).1 c hc)
theorem sorted_uniq (an : ∀ a b, le a b = true → le b a = true → a = b) : ∀ {l m : List α}, l.Pairwise (fun a b => le a b = true) → m.Pairwise (fun a b => le a b = true) → l.Perm m → l = m
  | [], m, _, _, h => h.nil_eq
  | a :: l, [], _, _, h => absurd h.length_eq (by simp)
  | a :: l, b :: m, hl, hm, h => by
    obtain ⟨hl1, hl2⟩ := List.pairwise_cons.mp hl
    obtain ⟨hm1, hm2⟩ := List.pairwise_cons.mp hm
    have e : a = b := by
      rcases List.mem_cons.mp (h.mem_iff.mp List.mem_cons_self) with e | e
      · exact e
      · rcases List.mem_cons.mp (h.mem_iff.mpr List.mem_cons_self) with f | f
        · exact f.symm
        · exact an a b (hl1 b f) (hm1 a e)
    subst e
    rw [sorted_uniq an hl2 hm2 (List.Perm.cons_inv h)]
def sortO (l : List α) : Option (List α) := let r := sortN le 40 l; if chainB le r = true then some r else none
theorem sortO_ok (tr : ∀ a b c, le a b = true → le b c = true → le a c = true) (to : ∀ a b, (le a b || le b a) = true) (an : ∀ a b, le a b = true → le b a = true → a = b) {l r : List α} (h : sortO le l = some r) : l.mergeSort le = r := by
  unfold sortO at h
  simp only at h
  split at h
  · rename_i hc
    cases h
    exact sorted_uniq le an (List.pairwise_mergeSort tr to l) (chainB_ok le tr _ hc) ((List.mergeSort_perm l le).trans (sortN_perm le 40 l).symm)
  · cases h
end
def leI (a b : Int) : Bool := decide (a ≤ b)
def leR (a b : List Int) : Bool := !HT.lexLt b a
theorem lexLt_lt : ∀ a b : List Int, HT.lexLt a b = decide (a < b)
  | [], [] => by simp [HT.lexLt]
  | [], b :: y => by simp [HT.lexLt]
  | a :: x, [] => by simp [HT.lexLt]
  | a :: x, b :: y => by
    unfold HT.lexLt
    rw [lexLt_lt x y]
    rw [Bool.eq_iff_iff]
    by_cases h : a = b
    · subst h
      rw [if_pos rfl, decide_eq_true_eq, decide_eq_true_eq, List.cons_lt_cons_iff]
      constructor
      · exact fun q => .inr ⟨rfl, q⟩
      · rintro (q | q)
        · exact absurd q (Int.lt_irrefl _)
        · exact q.2
    · rw [if_neg h, decide_eq_true_eq, decide_eq_true_eq, List.cons_lt_cons_iff]
      constructor
      · exact .inl
      · rintro (q | q)
        · exact q
        · exact absurd q.1 h
theorem leR_le (a b : List Int) : leR a b = decide (a ≤ b) := by
  unfold leR
  rw [lexLt_lt, Bool.eq_iff_iff, Bool.not_eq_true', decide_eq_false_iff_not, decide_eq_true_eq]
  exact Iff.rfl
theorem leI_fun : PySem.W.dataLe false (fun b : Int => .int b) = leI := by
  have := PySem.W.dataLe_int (β := Int) id
  exact this
def rowE (l : List Int) : PyData := .tuple (l.map .int)
theorem leR_fun : PySem.W.dataLe false rowE = leR := by
  funext p q
  show (!PySem.W.dataLt (.tuple (q.map .int)) (.tuple (p.map .int))) = _
  rw [PySem.W.dataLt_tuple]
  show (!PySem.W.rowLt (q.map .int) (p.map .int)) = _
  rw [PySem.W.dataLt_ints]
  unfold leR
  rw [lexLt_lt]
theorem leI_tot : (∀ a b c, leI a b = true → leI b c = true → leI a c = true) ∧ (∀ a b, (leI a b || leI b a) = true) ∧ ∀ a b, leI a b = true → leI b a = true → a = b := by
  unfold leI
  refine ⟨fun a b c h1 h2 => ?_, fun a b => ?_, fun a b h1 h2 => ?_⟩
  · simp only [decide_eq_true_eq] at *; omega
  · simp only [Bool.or_eq_true, decide_eq_true_eq]; omega
  · simp only [decide_eq_true_eq] at *; omega
theorem leR_tot : (∀ a b c, leR a b = true → leR b c = true → leR a c = true) ∧ (∀ a b, (leR a b || leR b a) = true) ∧ ∀ a b, leR a b = true → leR b a = true → a = b := by
  refine ⟨fun a b c h1 h2 => ?_, fun a b => ?_, fun a b h1 h2 => ?_⟩
  · rw [leR_le, decide_eq_true_eq] at *
    exact List.le_trans h1 h2
  · rw [leR_le, leR_le, Bool.or_eq_true, decide_eq_true_eq, decide_eq_true_eq]
    exact List.le_total a b
  · rw [leR_le, decide_eq_true_eq] at *
    exact List.le_antisymm h1 h2
end DL
end
section
namespace DL
open PySem PySem.Spec PyProof.Rows L2
section
variable {K : PySem.W.Frag} {mg : Str → Option Value} {Z Z' Z0 Z1 Z2 : Addr → Prop} {H H' H0 H1 H2 H3 : Hp} {O O' O1 O2 : Addr → Prop} {ρ ρ' ρ0 ρ1 ρ2 : Env} {σ σ' σ0 σ1 σ2 : L2.St} {B : Addr}
/-- a list's items, a dict's keys -/
def lstItems : D → Option (List D)
  | .lst l => some l
  | .dct l => some (l.map Prod.fst)
  | _ => none
theorem isKeys_den {kvs : List (List Key × V)} {bs : List Addr} (h : IsKeys H kvs bs) : DenAll K mg Z H (bs.map V.ref) (kvs.map fun p => D.tup (p.1.map keyD)) := by
  unfold IsKeys at h
  induction h with
  | nil => exact .nil
  | cons h t ih => exact .cons (.tup h (den_keys _)) ih
theorem collect_pk {X : Cx} (hc : X.calm = true) {pins : List (Addr × Obj)} {σ : L2.St} {H : Hp} {s : Shared} {x : V} {u : Value} {d : D} {ds : List D} (I : Inv X pins σ H s) (p : Pk X.K X.mg Z H x d) (hi : lstItems d = some ds) (rx : L2.RelV x u) :
    ∃ (r : Addr) (vs : List V), u = .ref r ∧ DenAll X.K X.mg Z H vs ds ∧ vs.length ≤ sizeLine ∧ ∀ {R : List Value → Shared → Prop} {E : Value → Shared → Prop}, (∀ h' tk us, (∀ b o, s.heap.get? b = some o → h'.get? b = some o) → Vals vs us → R us { s with heap := h', toks := tk }) →
      wpAny (model X.prog X.w) X.A.in1 (collect (.ref r)) R E s := by
  cases d with
  | lst l =>
    cases hi
    obtain ⟨a, xs, rfl, h1, t1⟩ := p.lst
    obtain rfl : u = .ref a := rx
    obtain ⟨its, rv, pl, hz⟩ := I.list (.inl (.inl h1))
    refine ⟨a, xs, rfl, t1, hz, fun {R E} h => ?_⟩
    refine PyProof.Rows.collect_list pl.isList (h _ s.toks its (fun b o e => ?_) rv) (by rw [← rv.length]; exact hz)
    rw [Heap.get?_update_ne _ _ _ _ (Nat.ne_of_lt (Heap.lt_size e))]
    exact Heap.get?_push_of_some _ e
  | dct l =>
    cases hi
    obtain ⟨a, rfl, c⟩ := p.contD
    obtain rfl : u = .ref a := rx
    cases c with
    | @dK _ kvs _ rd e t =>
      obtain ⟨z, lo, vs, rel, dd⟩ := dk_rd I.hok rd
      obtain ⟨ep, hat⟩ := dd.dictAt
      have hl : vs.length ≤ sizeLine := by rw [← rel.length]; exact z
      have ke : (vs.map fun p => kV p.1) = kvs.map fun p => kV p.1 := by
        have := congrArg (List.map kV) rel.keys
        rw [List.map_map, List.map_map] at this
        exact this.symm
      refine ⟨a, kvs.map fun p => kV p.1, rfl, ?_, by rw [List.length_map]; exact z, fun {R E} h => ?_⟩
      · rw [e]
        have : ∀ q : List (Key × V), DenAll X.K X.mg Z H (q.map fun p => kV p.1) (q.map fun p => keyD p.1) := fun q => by
          induction q with
          | nil => exact .nil
          | cons p r ih => exact .cons (den_key _) ih
        exact this kvs
      · refine PySem.W.kdu_collect (A := X.A.in1) (PySem.W.kdl_dict (knd := mixKind X.prog X.w) (kvs := vs) (ep := ep) lo) (I.ok.hd hc) hat hl fun h' tk acc hk hacc => h h' tk acc.toList hk ?_
        rw [← ke]
        exact keys_at (by rw [Array.length_toList, hacc.1]) fun j v e => hacc.2 j v (by rw [← Array.getElem?_toList]; exact e)
    | @dT _ kvs _ rd e t =>
      obtain ⟨z, lo, xs, rel, o, es, ep, g1, g2, g3, g4, g5, g6⟩ := dt_rd I.hok rd
      have l1 : es.size = xs.length := size_of_entries g4
      have l2 : kvs.length = xs.length := Paired.length rel
      refine ⟨a, (xs.map fun x => x.2.1).map V.ref, rfl, by rw [e]; exact isKeys_den (isKeys_of rel), by rw [List.length_map, List.length_map]; omega, fun {R E} h => ?_⟩
      refine PySem.W.kdu_collect (A := X.A.in1) (kdl_raw lo g2 g3) (I.ok.hd hc) g1 (by omega) fun h' tk acc hk hacc => h h' tk acc.toList hk ?_
      have el : acc.toList = (xs.map fun x => x.2.1).map Value.ref := by
        rw [List.map_map]
        have hlen : acc.toList.length = xs.length := by rw [Array.length_toList, hacc.1]; exact l1
        refine List.ext_getElem? fun j => ?_
        rw [List.getElem?_map]
        by_cases hj : j < xs.length
        · have hja : j < acc.toList.length := by omega
          rw [List.getElem?_eq_getElem hja, List.getElem?_eq_getElem hj]
          obtain ⟨en, hen, hv⟩ := hacc.2 j _ (by rw [← Array.getElem?_toList]; exact List.getElem?_eq_getElem hja)
          have qe := entry_at g4 j
          rw [hen, List.getElem?_eq_getElem hj] at qe
          cases qe
          rw [hv]
          rfl
        · rw [List.getElem?_eq_none (by omega), List.getElem?_eq_none (by omega)]
          rfl
      rw [el]
      exact vals_refs _
  | _ => cases hi

/-- sorted, over a kind of items -/
structure SortK (β : Type) where
  dE : β → D
  le : β → β → Bool
  fn : PySem.W.dataLe false (fun b => toPy (dE b)) = le
  tr : ∀ a b c, le a b = true → le b c = true → le a c = true
  to : ∀ a b, (le a b || le b a) = true
  an : ∀ a b, le a b = true → le b a = true → a = b
  pl : ∀ b, plainD (dE b) = true
  al : ∀ b c, PySem.W.alike (toPy (dE b)) (toPy (dE c)) = true
  at_ : ∀ {prog : Program} {w : World} {A : Around} {s : Shared} {vs : List Value} {bs : List β}, PySem.W.EachIs (fun v b => ∃ as, Reads s.heap v (toPy (dE b)) as) vs bs → A.units + 2 < cLine → PySem.W.SortsAt prog w A s (PySem.W.dataKind s.heap (bs.map fun b => toPy (dE b))) vs
theorem each_den {β : Type} {dE : β → D} : ∀ {vs : List V} {us : List Value} {bs : List β}, DenAll K mg Z H vs (bs.map dE) → Vals vs us → PySem.W.EachIs (fun u b => ∃ x, L2.RelV x u ∧ Den K mg Z H x (dE b)) us bs
  | _, _, [], .nil, .nil => .nil
  | _, _, b :: bs, .cons h t, .cons r rs => .cons ⟨_, r, h⟩ (each_den t rs)
theorem each_back {β : Type} {dE : β → D} : ∀ {us : List Value} {bs : List β}, PySem.W.EachIs (fun u b => ∃ x, L2.RelV x u ∧ Den K mg Z H x (dE b)) us bs → ∃ vs, Vals vs us ∧ DenAll K mg Z H vs (bs.map dE)
  | _, _, .nil => ⟨[], .nil, .nil⟩
  | _, _, .cons ⟨x, r, h⟩ t => by
    obtain ⟨vs, a, b⟩ := each_back t
    exact ⟨x :: vs, .cons r a, .cons h b⟩
theorem sorted_run {β : Type} (S : SortK β) {X : Cx} (hc : X.calm = true) (hu : X.A.units + 64 < cLine) {pins : List (Addr × Obj)} {σ : L2.St} {H : Hp} {s : Shared} {x : V} {u : Value} {d : D} {bs rs : List β} {Q : VK} (I : Inv X pins σ H s) (p : Pk X.K X.mg Z H x d) (hi : lstItems d = some (bs.map S.dE)) (rx : L2.RelV x u)
    (hr : sortO S.le bs = some rs) (q : ∀ w H', NewV X.K X.mg Z H H' w (.lst (rs.map S.dE)) → Q w H') : wpAny (model X.prog X.w) X.A (PySem.call (.builtin "sorted") [u]) (EP X pins σ Q) X.xe s := by
  obtain ⟨r, vs, rfl, den, hz, col⟩ := collect_pk hc I p hi rx
  refine Calls.call_function_entry PyProof.Rows.kind_sorted PyProof.Rows.plain_sorted PyProof.Rows.entry_sorted (PyProof.Rows.args_sorted1 _) ?_
  unfold Builtin.«sorted»
  refine wpAny_bind (m := checkCount "sorted" 1 1 _) (wpAny_pure ?_)
  refine wpAny_bind (col fun h1 tk us hk rv => ?_)
  have I1 : Inv X pins σ H { s with heap := h1, toks := tk } := I.kept hk
  have lz : us.length ≤ sizeLine := by rw [← rv.length]; exact hz
  refine wpAny_bind (wpAny_newList ?_ lz)
  have hoL : (h1.push (seqObj "list" us.toArray 0)).get? h1.objs.size = some (seqObj "list" us.toArray 0) := Heap.get?_push_size _ rfl
  show wpAny _ _ _ _ _ { s with heap := h1.push (seqObj "list" us.toArray 0), toks := tk }
  have er : PySem.W.EachIs (fun v b => ∃ as, Reads h1 v (toPy (S.dE b)) as) us bs := (each_den den rv).mono fun v b ⟨x, r, h⟩ => Dp.reads I1 _ _ _ (h.dp (S.pl b)) r
  let hS := PySem.W.sortingHeap (h1.push (seqObj "list" us.toArray 0)) h1.objs.size us
  have er2 : PySem.W.EachIs (fun v b => ∃ as, Reads hS v (toPy (S.dE b)) as) us bs := er.mono fun _ _ ⟨as, r⟩ => ⟨as, PyProof.Rows.Reads.keeps (fun b o e => PySem.W.sortingHeap_old (Nat.ne_of_lt (Heap.lt_size e)) (Heap.get?_push_of_some _ e)) r⟩
  have al : PySem.W.AllAlike (bs.map fun b => toPy (S.dE b)) := PySem.W.AllAlike.of S.al
  have out := PySem.W.sortVals_data (h' := hS) false (each_den den rv) er2 al
  rw [S.fn, sortO_ok S.le S.tr S.to S.an hr] at out
  obtain ⟨ws, rvo, dno⟩ := each_back out
  refine wpAny_bind (wpAny_holding (wpAny_call_entry PyProof.Rows.slot_list_sort ⟨_, hoL, rfl⟩ PyProof.Rows.entry_list_sort
    (PySem.W.list_sort_vals (s := { s with heap := h1.push (seqObj "list" us.toArray 0), toks := tk }) hoL (S.at_ (s := { s with heap := hS, toks := tk }) er2 (show X.A.units + 1 + 1 + 2 < cLine by omega)) lz ⟨_, rfl, ?_⟩) (PyProof.Rows.args_list_sort _)))
  obtain ⟨ep, he⟩ := PyProof.Rows.sortedHeap_at (vs := us) (out := (PySem.W.sortVals (PySem.W.dataKind hS (bs.map fun b => toPy (S.dE b))) false us us).toArray) hoL
  have hlen : ws.length ≤ sizeLine := by rw [rvo.length, PySem.W.sortVals_length false rfl]; exact lz
  have nw : H h1.objs.size = none := I1.hok.fresh (Nat.le_refl _)
  refine wpAny_pure ⟨_, rfl, .ref h1.objs.size, upd H h1.objs.size (.lst ws), I1.laid (t' := tk) (fun b o e => ?_) (Nat.le_refl _) ⟨hlen, _, ep, rvo, he⟩, rfl, q _ _ (newLst nw dno)⟩
  have hb : b < h1.objs.size := Heap.lt_size e
  rw [PyProof.Rows.sortedHeap_old (Nat.ne_of_lt hb) (by rw [size_push']; exact Nat.lt_succ_of_lt hb)]
  exact Heap.get?_push_of_some _ e
end
end DL
end
section
namespace DL
open PySem PySem.Spec PyProof.Rows L2
section
variable {K : PySem.W.Frag} {mg : Str → Option Value} {Z Z' Z0 Z1 Z2 : Addr → Prop} {H H' H0 H1 H2 H3 : Hp} {O O' O1 O2 : Addr → Prop} {ρ ρ' ρ0 ρ1 ρ2 : Env} {σ σ' σ0 σ1 σ2 : L2.St} {B : Addr}
theorem toPys_map {β : Type} (dE : β → D) : ∀ l : List β, toPys (l.map dE) = l.map fun b => toPy (dE b)
  | [] => by simp only [List.map_nil, toPys]
  | b :: r => by simp only [List.map_cons, toPys]; rw [toPys_map dE r]
theorem plain_ints : ∀ l : List Int, plainDs (l.map .int) = true
  | [] => by simp only [List.map_nil, plainDs]
  | b :: r => by simp only [List.map_cons, plainDs, plainD, plain_ints r]; rfl
theorem toPy_row (l : List Int) : toPy (.tup (l.map .int)) = rowE l := by
  unfold rowE
  simp only [toPy]
  rw [toPys_map]
  simp only [toPy]
def sortInt : SortK Int where
  dE := .int
  le := leI
  fn := by
    have h : (fun b : Int => toPy (.int b)) = fun b => PyData.int b := funext fun b => by simp only [toPy]
    rw [h]
    exact leI_fun
  tr := leI_tot.1
  to := leI_tot.2.1
  an := leI_tot.2.2
  pl := fun b => by simp only [plainD]
  al := fun b c => by simp only [toPy]; rfl
  at_ := fun {prog w A s vs bs} e hu => by
    have h : (fun b : Int => toPy (.int b)) = fun b => PyData.int b := funext fun b => by simp only [toPy]
    rw [h]
    refine PySem.W.SortsAt.data (PySem.W.each_map (R := fun v d => ∃ as, Reads s.heap v d as) PyData.int (e.mono fun v b ⟨as, r⟩ => ⟨as, by simpa only [toPy] using r⟩)) (PySem.W.AllAlike.of fun _ _ => rfl) (PySem.W.Sortable.others fun b => ⟨fun z => (by cases z), fun _ z => (by cases z)⟩) fun d hd => ?_
    obtain ⟨b, _, rfl⟩ := List.mem_map.mp hd
    simp only [PyData.depth]
    omega
def sortRow : SortK (List Int) where
  dE := fun l => .tup (l.map .int)
  le := leR
  fn := by
    have h : (fun b : List Int => toPy (.tup (b.map .int))) = rowE := funext toPy_row
    rw [h]
    exact leR_fun
  tr := leR_tot.1
  to := leR_tot.2.1
  an := leR_tot.2.2
  pl := fun b => by simp only [plainD]; exact plain_ints b
  al := fun b c => by
    rw [toPy_row, toPy_row]
    unfold rowE PySem.W.alike
    exact PySem.W.alike_ints b c
  at_ := fun {prog w A s vs bs} e hu => by
    have h : (fun b : List Int => toPy (.tup (b.map .int))) = rowE := funext toPy_row
    rw [h]
    refine PySem.W.SortsAt.rows (PySem.W.each_map (R := fun v d => ∃ as, Reads s.heap v d as) rowE (e.mono fun v b ⟨as, r⟩ => ⟨as, by rw [← toPy_row]; exact r⟩)) (fun d hd => ?_) hu
    obtain ⟨b, _, rfl⟩ := List.mem_map.mp hd
    exact ⟨b, rfl⟩
theorem intsD_ok : ∀ {l : List D} {ns : List Int}, intsD l = some ns → l = ns.map .int
  | [], _, h => by cases h; rfl
  | d :: r, ns, h => by
    cases d with
    | int i =>
      have h : (intsD r).map (i :: ·) = some ns := h
      cases e : intsD r with
      | none => rw [e] at h; cases h
      | some m =>
        rw [e] at h
        cases h
        rw [intsD_ok e]; rfl
    | _ => cases h
def rowsD : List D → Option (List (List Int))
  | [] => some []
  | .tup l :: r => match intsD l, rowsD r with
    | some a, some b => some (a :: b)
    | _, _ => none
  | _ => none
theorem rowsD_ok : ∀ {l : List D} {ns : List (List Int)}, rowsD l = some ns → l = ns.map fun x => .tup (x.map .int)
  | [], _, h => by cases h; rfl
  | d :: r, ns, h => by
    cases d with
    | tup l =>
      have h : (match intsD l, rowsD r with
        | some a, some b => some (a :: b)
        | _, _ => none) = some ns := h
      cases e : intsD l with
      | none => simp only [e] at h; cases h
      | some a =>
        cases e2 : rowsD r with
        | none => simp only [e, e2] at h; cases h
        | some b =>
          simp only [e, e2] at h
          cases h
          rw [intsD_ok e, rowsD_ok e2]; rfl
    | _ => cases h
def sortDs (ds : List D) : Option D := match intsD ds with
  | some ns => (sortO leI ns).map fun r => .lst (r.map .int)
  | none => match rowsD ds with
    | some ns => (sortO leR ns).map fun r => .lst (r.map fun x => .tup (x.map .int))
    | none => none
def gSorted : List D → Option D
  | [d] => match lstItems d with
    | some ds => sortDs ds
    | none => none
  | _ => none
theorem callG_sorted {X : Cx} (hc : X.calm = true) (hu : X.A.units + 64 < cLine) : CallR X (.builtin "sorted") (rC X.K X.mg gSorted) := by
  intro pins s σ H xs us Q I r ⟨Z, ds, rr, dom, p, hg, q⟩
  unfold gSorted at hg
  split at hg
  · rename_i d
    obtain ⟨x, rfl, px⟩ := p.un
    obtain ⟨u, rfl, rx⟩ := vals1 r
    cases e : lstItems d with
    | none => rw [e] at hg; cases hg
    | some ds =>
      rw [e] at hg
      simp only at hg
      unfold sortDs at hg
      cases e1 : intsD ds with
      | some ns =>
        rw [e1] at hg
        simp only at hg
        cases e2 : sortO leI ns with
        | none => rw [e2] at hg; cases hg
        | some rs =>
          rw [e2] at hg
          cases hg
          exact sorted_run sortInt hc hu I px (by rw [e, intsD_ok e1]; rfl) rx e2 q
      | none =>
        rw [e1] at hg
        simp only at hg
        cases e3 : rowsD ds with
        | none => rw [e3] at hg; cases hg
        | some ns =>
          rw [e3] at hg
          simp only at hg
          cases e2 : sortO leR ns with
          | none => rw [e2] at hg; cases hg
          | some rs =>
            rw [e2] at hg
            cases hg
            exact sorted_run sortRow hc hu I px (by rw [e, rowsD_ok e3]; rfl) rx e2 q
  · cases hg

/-! ### dict(list of pairs) -/
def pairsD : List D → Option (List (D × D))
  | [] => some []
  | .tup [k, v] :: r => (pairsD r).map ((k, v) :: ·)
  | _ => none
def putAll (l : List (D × D)) : List (D × D) → List (D × D)
  | [] => l
  | p :: r => putAll (putD l p.1 p.2) r
def putAllR (l : List (D × D) × Option (List Nat)) : List (D × D) → List (D × D)
  | [] => l.1.reverse
  | p :: r => putAllR (putC l.1 l.2 p.1 p.2) r
theorem putAllR_eq : ∀ (ps l : List (D × D)) (cs : Option (List Nat)), CodesOf l cs → putAllR (l, cs) ps = putAll l.reverse ps
  | [], _, _, _ => rfl
  | p :: r, l, cs, h => by
    obtain ⟨e, hc⟩ := putC_eq h p.1 p.2
    unfold putAllR putAll
    rw [← putR_eq, ← e]
    exact putAllR_eq r _ _ hc
/-- keys that are tuples -/
def gDict : List D → Option D
  | [.lst l] => match pairsD l with
    | some ps => if ps.length ≤ 1000000 ∧ (ps.all fun p => kOk true p.1) = true then some (.dct (putAllR ([], some []) ps)) else none
    | none => none
  | _ => none
end
end DL
end
section
namespace DL
open PySem PySem.Spec PyProof.Rows L2
section
variable {K : PySem.W.Frag} {mg : Str → Option Value} {Z Z' Z0 Z1 Z2 : Addr → Prop} {H H' H0 H1 H2 H3 : Hp} {O O' O1 O2 : Addr → Prop} {ρ ρ' ρ0 ρ1 ρ2 : Env} {σ σ' σ0 σ1 σ2 : L2.St} {B : Addr}
/-- a pair (key, value) of a list that is made a dict -/
structure PRow where
  t : Addr
  k : List Key
  b : Addr
  y : V
  d : D
  u : Value
def PRow.at (K : PySem.W.Frag) (mg : Str → Option Value) (Z : Addr → Prop) (H : Hp) (h : Heap) (r : PRow) : Prop := H r.b = some (.tup (r.k.map kV)) ∧ Den K mg Z H r.y r.d ∧ L2.RelV r.y r.u ∧ r.t < h.objs.size ∧ IsTup h r.t #[.ref r.b, r.u]
theorem prows {X : Cx} {pins : List (Addr × Obj)} {σ : L2.St} {H : Hp} {s : Shared} (I : Inv X pins σ H s) : ∀ {xs : List V} {l : List D} {ps : List (D × D)}, DenAll X.K X.mg Z H xs l → pairsD l = some ps → (ps.all fun p => kOk true p.1) = true →
    ∃ rows : List PRow, xs = rows.map (fun r => V.ref r.t) ∧ ps = rows.map (fun r => (keyT r.k, r.d)) ∧ ∀ r ∈ rows, r.at X.K X.mg Z H s.heap
  | _, _, _, .nil, e, _ => by cases e; exact ⟨[], rfl, rfl, fun r h => nomatch h⟩
  | _, d :: l, ps, .cons (v := v) h t, e, a => by
    cases d with
    | tup m =>
      match m, h, e with
      | [], h, e => cases e
      | [_], h, e => cases e
      | _ :: _ :: _ :: _, h, e => cases e
      | [k, w], h, e =>
        have e : (pairsD l).map ((k, w) :: ·) = some ps := e
        cases q : pairsD l with
        | none => rw [q] at e; cases e
        | some qs =>
          rw [q] at e
          cases e
          rw [List.all_cons, Bool.and_eq_true] at a
          obtain ⟨rows, h1, h2, h3⟩ := prows I t q a.2
          obtain ⟨T, zs, rfl, hT, tz⟩ := Pk.tupX (.inl h)
          cases tz with
          | @cons vk _ _ _ hk tz =>
            cases tz with
            | @cons vy _ _ _ hy tz =>
              cases tz
              cases k with
              | tup m =>
                have ho : (keysO m).isSome = true := a.1
                cases ek : keysO m with
                | none => rw [ek] at ho; cases ho
                | some ks =>
                  have em := keysO_ok ek
                  subst em
                  obtain ⟨b, ys, rfl, hb, tb⟩ := Pk.tupX (.inl hk)
                  have ey := den_keysV tb
                  subst ey
                  obtain ⟨_, its, rv, ht⟩ := (show ObjOk X.prog X.w H s.heap T (.tup [V.ref b, vy]) from I.hok T _ hT)
                  obtain ⟨u1, u2, rfl, r1, r2⟩ := vals2 rv
                  obtain rfl : u1 = .ref b := r1
                  refine ⟨⟨T, ks, b, vy, w, u2⟩ :: rows, by rw [h1]; rfl, by rw [h2]; rfl, fun r hr => ?_⟩
                  rcases List.mem_cons.mp hr with rfl | hr
                  · exact ⟨hb, hy, r2, ht.lt, ht⟩
                  · exact h3 r hr
              | _ => exact nomatch a.1
    | _ => cases e
def kvF (acc : List (List Key × V)) (rows : List PRow) : List (List Key × V) := rows.foldl (fun a r => putK a r.k r.y) acc
theorem kvF_len : ∀ (rows : List PRow) (acc : List (List Key × V)), (kvF acc rows).length ≤ acc.length + rows.length
  | [], acc => Nat.le_refl _
  | r :: rows, acc => by
    have h1 := kvF_len rows (putK acc r.k r.y)
    have h2 := length_putK acc r.k r.y
    show (kvF (putK acc r.k r.y) rows).length ≤ _
    rw [List.length_cons]
    omega
theorem kvF_kd {h : Heap} : ∀ (rows : List PRow) {acc : List (List Key × V)} {l : List (D × D)}, (∀ r ∈ rows, r.at K mg Z H h) → KD keyT K mg Z H acc l → KD keyT K mg Z H (kvF acc rows) (putAll l (rows.map fun r => (keyT r.k, r.d)))
  | [], _, _, _, q => q
  | r :: rows, acc, l, hr, q => kvF_kd rows (fun r h => hr r (List.mem_cons_of_mem _ h)) (q.put same_keyT r.k (hr r List.mem_cons_self).2.1)
theorem kvF_kt {h : Heap} : ∀ (rows : List PRow) {acc : List (List Key × V)} {xs : List (List Key × Addr × Value)}, (∀ r ∈ rows, r.at K mg Z H h) → KT H acc xs → KT H (kvF acc rows) (PySem.storedAllH xs (rows.map fun r => (r.k, r.b, r.u)))
  | [], _, _, _, q => q
  | r :: rows, acc, xs, hr, q => kvF_kt rows (fun r h => hr r (List.mem_cons_of_mem _ h)) (q.put r.k (hr r List.mem_cons_self).1 (hr r List.mem_cons_self).2.2.1)
theorem callG_dict {X : Cx} (hc : X.calm = true) (hu : X.A.units + 64 < cLine) : CallR X (.type "dict") (rC X.K X.mg gDict) := by
  intro pins s σ H xs us Q I r ⟨Z, ds, rr, dom, p, hg, q⟩
  unfold gDict at hg
  split at hg
  · rename_i l
    obtain ⟨x, rfl, px⟩ := p.un
    obtain ⟨u, rfl, rx⟩ := vals1 r
    obtain ⟨a, ys, rfl, h1, t1⟩ := px.lst
    obtain rfl : u = .ref a := rx
    cases e : pairsD l with
    | none => rw [e] at hg; cases hg
    | some ps =>
      rw [e] at hg
      simp only at hg
      split at hg
      · rename_i hok
        have c0 : CodesOf [] (some []) := fun xs e => e
        rw [putAllR_eq ps [] (some []) c0] at hg
        simp only [List.reverse_nil] at hg
        cases hg
        obtain ⟨rows, hx, hp, hr⟩ := prows I t1 e hok.2
        subst hx hp
        obtain ⟨its, rv, ⟨o, n, ho, hcl, hdc, hdat⟩, hz⟩ := I.list (.inl (.inl h1))
        have ei : its = rows.map fun r => Value.ref r.t := by
          have := refs_at (ps := rows.map (·.t)) (us := its) (by rw [List.map_map]; exact rv)
          rw [this, List.map_map]; rfl
        have hn : rows.length ≤ 1000000 := by have := hok.1; rwa [List.length_map] at this
        have hs := sizeLine_eq
        let vps : List (Value × Value) := rows.map fun r => (Value.ref r.b, r.u)
        have hv : vps.length = rows.length := List.length_map ..
        have P := PySem.PairArg.list (prog := X.prog) (w := X.w) a its.toArray (fun j => (rows.map (·.t)).getD j 0) vps
        refine PySem.call_dict_pairsH (knd := tupleKind (mixKind X.prog X.w)) (ps := rows.map fun r => (r.k, r.b, r.u)) P (I.ok.hd hc) (show X.A.units + 1 + 1 < cLine by omega) ⟨⟨o, n, ho, hcl, hdc, hdat⟩, ?_, fun j k v e => ?_⟩ ⟨?_, fun i key v e => ?_⟩ (fun h' hk x hx => ?_) (by rw [hv]; omega) fun h' tk dd hk => ?_
        · rw [ei, hv, List.size_toArray, List.length_map]
        · have e : vps[j]? = some (k, v) := e
          rw [List.getElem?_map] at e
          cases er : rows[j]? with
          | none => rw [er] at e; cases e
          | some r =>
            rw [er] at e
            cases e
            have ra := hr r (List.mem_of_getElem? er)
            have et : (rows.map (·.t)).getD j 0 = r.t := by rw [List.getD_eq_getElem?_getD, List.getElem?_map, er]; rfl
            show its.toArray[j]? = some (Value.ref ((rows.map (·.t)).getD j 0)) ∧ PySem.PairAt s.heap ((rows.map (·.t)).getD j 0) (Value.ref r.b) r.u
            rw [et]
            refine ⟨by rw [ei]; simp [er], .inl ?_⟩
            obtain ⟨o, g1, g2, n, g3⟩ := ra.2.2.2.2
            exact ⟨o, g1, g2, n, g3⟩
        · rw [hv, List.length_map]
        · have e : vps[i]? = some (key, v) := e
          rw [List.getElem?_map] at e
          cases er : rows[i]? with
          | none => rw [er] at e; cases e
          | some r =>
            rw [er] at e
            cases e
            exact ⟨r.k, r.b, by rw [List.getElem?_map, er]; rfl, rfl⟩
        · obtain ⟨r, hm, rfl⟩ := List.mem_map.mp hx
          obtain ⟨o, its, n, g1, g2, g3, g4⟩ := key_of (P := X.prog) (w := X.w) I.hok (hr r hm).1
          exact ⟨o, its, n, hk _ _ (Nat.ne_of_lt (Heap.lt_size g1)) (fun z => nomatch z) g1, g2, g3, g4⟩
        · have keeps : ∀ b o, s.heap.get? b = some o → h'.get? b = some o := fun b o e => hk b o (fun z => nomatch z) e
          have nw : H s.heap.objs.size = none := I.hok.fresh (Nat.le_refl _)
          obtain ⟨o, es, ep, g1, g2, g3, g4, g5, g6⟩ := dd
          have len := kvF_len rows []
          have kt : KT H (kvF [] rows) (PySem.storedAllH [] (rows.map fun r => (r.k, r.b, r.u))) := kvF_kt rows hr .nil
          have up := upd_keeps (o := .dT (kvF [] rows)) nw
          refine ⟨.ref s.heap.objs.size, upd H s.heap.objs.size (.dT (kvF [] rows)), I.laid (t' := tk) keeps (Nat.le_refl _) ⟨?_, beq_eq_false_iff_ne.mpr (Ne.symm (Nat.ne_of_lt I.big)), _, kt.keeps fun b ys e => up b _ e, o, es, ep, g1, g2, g3, g4, g6⟩, rfl, q _ _ ?_⟩
          · rw [List.length_nil] at len; omega
          · refine ⟨up, _, rfl, nw, by rw [upd_same]; exact True.intro, ?_⟩
            refine KD.contT (kvs := kvF [] rows) ?_ (.inl upd_same)
            exact (kvF_kd rows hr .nil).step (O := fun _ => False) (.all up) (fun _ z => z) fun _ z => z.elim
      · cases hg
  · cases hg
end
end DL
end
section
namespace DL
open PySem PySem.Spec PyProof.Rows L2
section
variable {K : PySem.W.Frag} {mg : Str → Option Value} {Z Z' Z0 Z1 Z2 : Addr → Prop} {H H' H0 H1 H2 H3 : Hp} {O O' O1 O2 : Addr → Prop} {ρ ρ' ρ0 ρ1 ρ2 : Env} {σ σ' σ0 σ1 σ2 : L2.St} {B : Addr}

/-! ### x[i] = e, x a list of the def's own or one lent to it -/
def mPutF (j : Nat) (d : D) (q : R × Env) : Res (Fl × Env) := match peek q.2 q.1, q.2[j]? with
  | some (.int k), some (.ow b (.lst l)) => match ixN l.length k with
    | some n => .ok (.nx, q.2.set j (.ow b (.lst (l.set n d))))
    | none => .stuck
  | _, _ => .stuck
def isOw : Option Sl → Bool
  | some (.ow _ _) => true
  | _ => false
def mPut (j : Nat) (mi m : ME) : MS := fun ρ => (m ρ).bind fun p => match frz1 p.1 p.2 with
  | some (d, ρ1) => if isOw ρ1[j]? = true then (mi ρ1).bind (mPutF j d) else .stuck
  | none => .stuck
theorem DenAll.set : ∀ {vs : List V} {ds : List D} (n : Nat) {v : V} {d : D}, DenAll K mg Z H vs ds → Den K mg Z H v d → DenAll K mg Z H (vs.set n v) (ds.set n d)
  | _, _, _, _, _, .nil, _ => .nil
  | _, _, 0, _, _, .cons _ t, h => .cons h t
  | _, _, n + 1, _, _, .cons a t, h => .cons a (t.set n h)
theorem put_ok {W : WX} {j : Nat} {mi m : ME} {D : Ends} {σ : L2.St} {H : Hp} (h : tS K mg W (mPut j mi m) D σ H) : tAsg (tD K mg W m) (L2.gSub (tVar j) (tD K mg W mi) rSetL) D σ H := by
  obtain ⟨B, Z, ρ, rel, h⟩ := h
  refine opdS rel h fun v Z1 H1 r ρ1 rel1 s1 d h1 => ?_
  simp only at h1
  cases e1 : frz1 r ρ1 with
  | none => rw [e1] at h1; exact h1.elim
  | some p =>
    obtain ⟨dd, ρ2⟩ := p
    rw [e1] at h1
    simp only at h1
    obtain ⟨Z2, rel2, s2, hd⟩ := frz_raw (fun a q => .inl q) rel1 s1 d e1
    split at h1
    · rename_i how
      cases e2 : ρ2[j]? with
      | none => rw [e2] at how; cases how
      | some sl =>
        rw [e2] at how
        cases sl with
        | un => cases how
        | fz _ => cases how
        | ow b0 c0 =>
          obtain ⟨a, ea, _⟩ := rel2.ow j b0 c0 e2
          refine ⟨.ref a, ea, opdS2 rel2 s2 h1 fun w Z3 H3 r3 ρ3 rel3 s3 d3 h3 => ?_⟩
          unfold mPutF at h3
          simp only at h3
          cases e4 : peek ρ3 r3 with
          | none => rw [e4] at h3; exact h3.elim
          | some x =>
            cases e5 : ρ3[j]? with
            | none => rw [e4, e5] at h3; cases x <;> exact h3.elim
            | some sl =>
              rw [e4, e5] at h3
              cases x with
              | int k =>
                cases sl with
                | un => exact h3.elim
                | fz _ => exact h3.elim
                | ow b c =>
                  cases c with
                  | lst l =>
                    simp only at h3
                    cases e6 : ixN l.length k with
                    | none => rw [e6] at h3; exact h3.elim
                    | some n =>
                      rw [e6] at h3
                      obtain ⟨a', ea', nz, mu, c, _⟩ := rel3.ow j b _ e5
                      rw [ea] at ea'
                      cases ea'
                      cases c with
                      | @lst _ xs _ hl t =>
                        have hv := rel2.den s3 hd
                        obtain ⟨rel4, s4⟩ := rel_write (ob := .lst (xs.set n v)) (d' := .lst (l.set n dd)) rel3 e5 ea True.intro (.lst upd_same ((dens_upd nz mu t).set n (den_upd nz mu hv)))
                        exact ⟨a, xs, k, n, rfl, (d3.pk rel3 e4).int, hl, by rw [t.length]; exact e6, h3 σ Z3 _ rel4 ((s2.trans s3).trans s4)⟩
                  | _ => exact h3.elim
              | _ => exact h3.elim
    · exact h1.elim
theorem ds_put {X : Cx} {W : WX} {j : Nat} {x : Str} {i e : Expr} {mi m : ME} {opos pos pos2 : Pos} (he : DE X W e m) (hi : DE X W i mi) (ho : PE X (.Name x opos) (tVar j)) (hs : swapsWithSole [.Subscript (.Name x opos) i pos2] e pos.line X.env = pure false := by rfl) (hw : swappedStores [.Subscript (.Name x opos) i pos2] e X.env = pure none := by rfl)
    (ha : ∀ v, assign (.Subscript (.Name x opos) i pos2) X.env v = (do
      let ov ← holding [v] (eval (.Name x opos) X.env)
      let iv ← holding [v, ov] (eval i X.env)
      standAt pos2
      holding [v, ov, iv] (setItem ov iv v)
      release [v, ov, iv] []) := by intro _; rfl)
    (h1 : (assignEach [.Subscript (.Name x opos) i pos2] X.env).map (·.2) = [assign (.Subscript (.Name x opos) i pos2) X.env] := by rfl) : DS X W (.Assign [.Subscript (.Name x opos) i pos2] e pos) (mPut j mi m) :=
  PS.imp (ps_asg he (pg_sub ho hi set_list ha) hs hw h1) fun _ _ _ h => put_ok h

/-! ### a def that is lent a list -/
def entryI (n : Nat) (d : D) (ds : List D) : Env := .ow true d :: entry (n - 1) ds
def runFI (n : Nat) (body : MS) : D → List D → Res (RF × D) := fun d ds => match body (entryI n d ds) with
  | .ok (.rt r, ρ') => match (ρ' : List Sl)[(0 : Nat)]? with
    | some (.ow true d') => .ok (r, d')
    | _ => .stuck
  | .ok (.nx, ρ') => match (ρ' : List Sl)[(0 : Nat)]? with
    | some (.ow true d') => .ok (.fz .non, d')
    | _ => .stuck
  | .exc x => .exc x
  | _ => .stuck
theorem entryI_own {N : List Str} {a c : Addr} {us : List V} {d : D} {ds : List D} (h : Od (entryI N.length d ds) (L2.start N (.ref a :: us)) c) : c = a := by
  obtain ⟨i, b, x, e, e'⟩ := h
  cases i with
  | zero =>
    unfold L2.start at e'
    have e' : some (some (V.ref a)) = some (some (V.ref c)) := e'
    cases e'
    rfl
  | succ i =>
    have e : (entry (N.length - 1) ds)[i]? = some (.ow b x) := e
    rcases entry_fz e with ⟨_, q, _⟩ | q <;> cases q
theorem rel_entryI {N : List Str} {a : Addr} {us : List V} {d : D} {ds : List D} (hN : 0 < N.length) (dom : ∀ a, Z a → H a ≠ none) (nz : ¬ Z a) (mu : Mut (H a)) (c : Cont K mg Z H a d) (t : DenAll K mg Z H us ds) (hl : ds.length + 1 ≤ N.length) :
    Rel K mg a Z H (entryI N.length d ds) (L2.start N (.ref a :: us)) := by
  have st : ∀ i, (L2.start N (.ref a :: us))[i + 1]? = (us.map some ++ List.replicate (N.length - (us.length + 1)) (none : Option V))[i]? := fun i => by
    unfold L2.start
    rw [List.length_cons]
    rfl
  refine ⟨?_, dom, fun i x e => ?_, fun i b x e => ?_, fun i j b c' x y a' e1 e2 _ _ => ?_⟩
  · unfold entryI entry L2.start
    simp only [List.length_cons, List.length_append, List.length_map, List.length_replicate]
    rw [t.length]
    omega
  · cases i with
    | zero => cases e
    | succ i =>
      have e : (entry (N.length - 1) ds)[i]? = some (.fz x) := e
      rcases entry_fz e with ⟨y, q, e'⟩ | q
      · cases q
        obtain ⟨v, ev, hv⟩ := t.get e'
        refine ⟨v, ?_, hv⟩
        rw [st, List.getElem?_append_left (by rw [List.length_map]; exact (List.getElem?_eq_some_iff.mp ev).1), List.getElem?_map, ev]
        rfl
      · cases q
  · cases i with
    | zero =>
      cases e
      exact ⟨a, rfl, nz, mu, c, fun _ => rfl⟩
    | succ i =>
      have e : (entry (N.length - 1) ds)[i]? = some (.ow b x) := e
      rcases entry_fz e with ⟨_, q, _⟩ | q <;> cases q
  · cases i with
    | zero =>
      cases j with
      | zero => rfl
      | succ j =>
        have e2 : (entry (N.length - 1) ds)[j]? = some (.ow c' y) := e2
        rcases entry_fz e2 with ⟨_, q, _⟩ | q <;> cases q
    | succ i =>
      have e1 : (entry (N.length - 1) ds)[i]? = some (.ow b x) := e1
      rcases entry_fz e1 with ⟨_, q, _⟩ | q <;> cases q
theorem runFI_ok {N : List Str} {n : Nat} (hN : 0 < N.length) (hn : n ≤ N.length) {body : MS} {vs : List V} {Q : VK} {E : XK} (h : spI K mg n (runFI N.length body) vs H Q E) : tS K mg (fun cls d _ H => E cls d H) body { nx := fun _ H' => Q .non H', rt := Q } (L2.start N vs) H := by
  obtain ⟨Z, a, us, d, ds, ev, dom, nz, mu, c, t, h⟩ := h
  subst ev
  unfold lenIsI at h
  by_cases hl : ds.length + 1 = n
  · rw [if_pos hl] at h
    have rel := rel_entryI (N := N) hN dom nz mu c t (by omega)
    refine ⟨a, Z, entryI N.length d ds, rel, ?_⟩
    unfold runFI at h
    have oa : Od (entryI N.length d ds) (L2.start N (.ref a :: us)) a := ⟨0, true, d, rfl, rfl⟩
    have own : ∀ c, Od (entryI N.length d ds) (L2.start N (.ref a :: us)) c → c = a := fun c q => entryI_own q
    have st0 : ∀ {Z' H' ρ' σ'}, Step Z H (Od (entryI N.length d ds) (L2.start N (.ref a :: us))) Z' H' (Od ρ' σ') → Step Z H (fun b => b = a) Z' H' (fun b => b = a) := fun s => s.cong (fun c q => own c q) fun c q => .inr q
    -- the lent list behind the body
    have lent : ∀ {Z' H' ρ' σ' d'}, Rel K mg a Z' H' ρ' σ' → ρ'[0]? = some (.ow true d') → ¬ Z' a ∧ Mut (H' a) ∧ Cont K mg Z' H' a d' ∧ Od ρ' σ' a := fun {Z' H' ρ' σ' d'} r e => by
      obtain ⟨a', e', nz', m', c', hb⟩ := r.ow 0 true d' e
      have q := hb rfl
      rw [q] at e' nz' m' c'
      exact ⟨nz', m', c', 0, true, d', e, e'⟩
    cases e : body (entryI N.length d ds) with
    | stuck => rw [e] at h; exact h.elim
    | exc x =>
      rw [e] at h
      exact fun cls dx σ' Z' H' st xd => h cls dx Z' H' (st0 st) xd
    | ok p =>
      obtain ⟨fl, ρ'⟩ := p
      rw [e] at h
      cases fl with
      | bk => exact h.elim
      | ct => exact h.elim
      | nx =>
        simp only at h
        cases e0 : ρ'[0]? with
        | none => rw [e0] at h; exact h.elim
        | some sl =>
          rw [e0] at h
          cases sl with
          | un => exact h.elim
          | fz _ => exact h.elim
          | ow b d' =>
            cases b with
            | false => exact h.elim
            | true =>
              intro σ' Z' H' rel' st
              obtain ⟨n1, m1, c1, _⟩ := lent rel' e0
              exact h .non Z' H' (st0 st) n1 m1 c1 .non
      | rt r =>
        simp only at h
        cases e0 : ρ'[0]? with
        | none => rw [e0] at h; exact h.elim
        | some sl =>
          rw [e0] at h
          cases sl with
          | un => exact h.elim
          | fz _ => exact h.elim
          | ow b d' =>
            cases b with
            | false => exact h.elim
            | true =>
              intro σ' v Z' H' rel' st rd
              obtain ⟨n1, m1, c1, o1⟩ := lent rel' e0
              refine h v Z' H' (st0 st) n1 m1 c1 ?_
              cases r with
              | fz x => exact rd
              | ow x =>
                obtain ⟨a2, ev, n2, nz2, m2, no2, c2⟩ := rd
                refine ⟨a2, ev, n2.elim (fun q => q) fun q => ?_, nz2, m2, c2⟩
                exact absurd (own a2 q ▸ o1) no2
  · rw [if_neg hl] at h
    exact h.elim
theorem fnI_ok {P : Program} {w : World} {base : Heap} {x qual : Str} {st : Stmt} {f : Addr} {fd : FuncData} {N ps : List Str} {k n : Nat} {body : MS} (F : Fun K x qual st f fd) (S : FnScope N ps (defScope st)) (hn : ps.length = n) (hN : 0 < N.length) (hl : n ≤ N.length)
    (hb : ∀ (cdv : Value) (A : Around) (outer : List PySem.Env) (s : Shared) (H : Hp) (E : XK), Room k (A.deeper (envOfC qual (defScope st) s.heap.objs.size f cdv)) → (A.deeper (envOfC qual (defScope st) s.heap.objs.size f cdv)).guards = some [] →
      DB (cxOf (L2.CX P w) P w K mg base N qual (defScope st) f cdv A outer s H E) (fun cls d _ H => E cls d H) (defBody st) body) : FnG P w K mg base (k + 1) f fd ps (spI K mg n (runFI N.length body)) := by
  obtain ⟨oc, od, kV, doc, pm, an, cdv, ct, osl, rfl, lk, hcd⟩ := F.ex
  exact fnG_of lk hcd S (fun vs H Q E h => (spI_len h).trans hn.symm) fun A outer s H vs Q E hr hg h => ⟨_, hb cdv A outer s H E hr hg, runFI_ok hN hl h⟩
end
end DL
end
section
namespace DL
open PySem PySem.Spec PyProof.Rows L2

/-! ### the law's own call -/
/-- what the law's def promises: from a script's ints on, True, and nothing raised -/
def spLaw (K : PySem.W.Frag) (n : Nat) (f : List D → Res RF) : Sp := fun vs H Q _ => ∃ (a : Addr) (ns : List Int), vs = [.ref a] ∧ ns.length ≤ n ∧ Only H ∧ SqL K H a (ns.map V.int) ∧ f [.scr ns] = .ok (.fz (.bl true)) ∧ ∀ H', Q (.bl true) H'
section
variable {P : Program} {w : World} {K : PySem.W.Frag} {mg : Str → Option Value}
theorem scr_of {H : Hp} {a : Addr} {ns : List Int} (hO : Only H) (h : SqL K H a (ns.map V.int)) : ScrAt K H a ns := by
  rcases h with (h | ⟨o, h⟩) | h
  · rcases hO a with z | ⟨o, xs, z⟩ <;> (rw [z] at h; cases h)
  · exact .inl ⟨o, h⟩
  · exact .inr (.inr h)
theorem law_spec {H : Hp} {vs : List V} {Q : VK} {E : XK} {n : Nat} {f : List D → Res RF} (h : spLaw K n f vs H Q E) : spF K mg 1 f vs H Q E := by
  obtain ⟨a, ns, rfl, _, hO, hs, hf, q⟩ := h
  refine ⟨fun _ => False, [.scr ns], fun _ z => z.elim, .cons (.scr (scr_of hO hs)) .nil, ?_⟩
  show match lenIs 1 f [.scr ns] with
    | .ok r => _
    | .exc x => _
    | .stuck => _
  have e : lenIs 1 f [.scr ns] = .ok (.fz (.bl true)) := by
    unfold lenIs
    rw [if_pos (show [D.scr ns].length = 1 from rfl), hf]
  rw [e]
  intro v Z' H' st rd
  have rd : Den K mg Z' H' v (.bl true) := rd
  rw [Pk.bl (.inl rd)]
  exact q H'
/-- at the head no guard stands around -/
theorem lawG_call {mb : Str → Option Value} {k n : Nat} {fa a : Addr} {fd : FuncData} {x : Str} {f : List D → Res RF} {s : Shared} {vs : List Value} {ns : List Int} (KX : K.In s.heap) (gl : s.heap.Ns mainGlobals mg) (bl : s.heap.Ns builtinsNs mb) (bb : ∀ x : Str, x ≠ "__name__" → mb x = bootBuiltins x)
    (nolim : s.heap.NoLimit) (gens : s.gens = #[]) (scr : s.heap.get? a = some { cls := .type "list", data := .seq vs.toArray }) (hints : IntsAre vs ns) (short : ns.length ≤ n) (hn : n ≤ sizeLine) (room : Room k callerA)
    (F : ∀ base : Heap, K.In base → base.Ns mainGlobals mg → FnG P w K mg base k fa fd [x] (spLaw K n f)) (bind : ∀ (s : Shared) (u : Value), BindsTo s fd ⟨[u], []⟩ [(x, u)]) (hf : f [.scr ns] = .ok (.fz (.bl true))) :
    codeAny (model P w) callerA (.call (.ref fa) ⟨[.ref a], []⟩) (fun r s' => r = .ok (.ret (.bool true)) ∧ OldK s.heap s'.heap ∧ s'.os = s.os ∧ AllBare s'.gens) s := by
  have rv := vals_ints hints
  have len := hints.length
  -- the abstract heap: the script alone, unless it is written
  have main : ∀ H : Hp, Only H → SqL K H a (ns.map V.int) → HOk P w H s.heap → (∀ b, H b ≠ none → b = a) → (H a ≠ none → K.lookup a = none) →
      codeAny (model P w) callerA (.call (.ref fa) ⟨[.ref a], []⟩) (fun r s' => r = .ok (.ret (.bool true)) ∧ OldK s.heap s'.heap ∧ s'.os = s.os ∧ AllBare s'.gens) s := by
    intro H only sq ok onlyA notK
    have free : ∀ {b : Addr}, b ≠ a → H b = none := fun {b} hb => by
      cases q : H b with
      | none => rfl
      | some u => exact absurd (onlyA b (by rw [q]; exact Option.some_ne_none u)) hb
    have nsB : ∀ {b : Addr} {m : Str → Option Value}, s.heap.Ns b m → (hidT s.heap H).Ns b m := fun {b m} h => by
      obtain ⟨o, es, ep, e, d, r⟩ := h
      refine ⟨o, es, ep, hidT_get e (free fun q => ?_), d, r⟩
      rw [q, scr] at e
      cases e
      exact nomatch (show Data.seq vs.toArray 0 = Data.dict es ep from d)
    have KB : K.In (hidT s.heap H) := fun b o e => hidT_get (KX b o e) (by
      by_cases hb : b = a
      · cases q : H b with
        | none => rfl
        | some u =>
          have := notK (by rw [← hb, q]; exact Option.some_ne_none u)
          rw [hb, this] at e
          cases e
      · exact free hb)
    have start : Env0 P w K mg (hidT s.heap H) callerA [] s H :=
      ⟨rfl, ⟨KB, nsB gl, ⟨mb, nsB bl, bb⟩, match nolim with | ⟨mc, h1, h2⟩ => ⟨mc, nsB h1, h2⟩⟩, fun b o e => of_hidT e, Nat.le_of_eq (hidT_size _ _), trivial, fun b (hb : b ∈ ([] : List Addr)) => (nomatch hb), ok, .of_eq gens⟩
    have sp : spLaw K n f [.ref a] H (fun v _ => v = .bl true) fun _ _ _ => False := ⟨a, ns, rfl, short, only, sq, hf, fun _ => rfl⟩
    refine codeAny_mono ((F _ KB (nsB gl)).run callerA [] s H ⟨[.ref a], []⟩ [.ref a] [.ref a] _ _ room rfl start (bind s (.ref a)) (.cons rfl .nil) sp) ?_
    rintro (e | fl) s' hr
    · exact absurd hr fun h => by
        obtain ⟨_, _, _, _, _, _, _, _, _, _, _, _, z⟩ := h
        exact z.elim
    · cases fl with
      | ret u =>
        obtain ⟨v, H', os, bare, un, ok', ru, q⟩ := hr
        have q : v = .bl true := q
        subst q
        obtain rfl : u = Value.bool true := ru
        refine ⟨rfl, OldK.of_keep fun b o e => ?_, os, bare⟩
        rcases only b with z | ⟨ob, xs, z⟩
        · exact un.keep b o e z (fun (h : b ∈ ([] : List Addr)) => (nomatch h)) (fun (h : b ∈ ([] : List Addr)) => (nomatch h))
        · have e1 := (ok b _ z).1
          have e2 := (ok' b _ (un.frzs b ob _ z)).1
          rw [e] at e1
          cases e1
          exact e2
      | _ => exact hr.elim
  cases hk : K.lookup a with
  | some o =>
    have e := KX a o hk
    rw [scr] at e
    cases e
    exact main (fun _ => none) (fun _ => .inl rfl) (.inr ⟨_, vs.toArray, _, hk, rfl, rfl, rfl, by rw [List.size_toArray, len]; exact Nat.le_trans short hn, by simpa using rv⟩) (fun b u z => nomatch z) (fun b z => absurd rfl z) fun z => absurd rfl z
  | none =>
    let hs : Hp := fun b => if b = a then some (.frz { cls := .type "list", data := .seq vs.toArray } (.lst (ns.map V.int))) else none
    have at_a : hs a = some (.frz { cls := .type "list", data := .seq vs.toArray } (.lst (ns.map V.int))) := if_pos rfl
    refine main hs (fun b => ?_) (.inl (.inr ⟨_, at_a⟩)) (fun b u z => ?_) (fun b z => ?_) fun _ => hk
    · by_cases hb : b = a
      · subst hb; exact .inr ⟨_, _, at_a⟩
      · exact .inl (if_neg hb)
    · by_cases hb : b = a
      · subst hb
        rw [at_a] at z
        cases z
        exact ⟨scr, by rw [List.length_map]; exact Nat.le_trans short hn, vs, _, rv, scr⟩
      · have z : hs b = some u := z
        rw [show hs b = none from if_neg hb] at z
        cases z
    · by_cases hb : b = a
      · exact hb
      · exact absurd (if_neg hb) z
end
/-- the goal that the head leaves: F, the law's promise; hf, that the law's function says True -/
theorem walkG {l : PySem.W.OpenLaw} {n k : Nat} {q : Program} {loose : List Str} {XP : (Str → Option Value) → Heap → Prop} {YP : World → Heap → Prop} {d : DefRec} {K : Params → PySem.W.Frag} {x : Str} {f : List D → Res RF} (hn : l.most = some n) (hn2 : n ≤ sizeLine) (hdf : d.params.defaults = [])
    (hr : Room k callerA) (hY : ∀ (w : World) (h : Heap), YP w h → (K w.params).In h)
    (F : ∀ (w : World) (mg : Str → Option Value) (fa : Addr) (h : Heap), (K w.params).In h → h.Ns mainGlobals mg → mg d.name = some (.ref fa) → ∃ fd : FuncData, (∀ (s : Shared) (u : Value), BindsTo s fd ⟨[u], []⟩ [(x, u)]) ∧
      ∀ base : Heap, (K w.params).In base → base.Ns mainGlobals mg → FnG l.prog w (K w.params) mg base k fa fd [x] (spLaw (K w.params) n f))
    (hf : ∀ ns : List Int, ns.length ≤ n → f [.scr ns] = .ok (.fz (.bl true))) : PySem.W.WalkO q loose XP YP l.row.toRowW d [] (fun f vs => PySem.call f vs) := by
  refine Att.attach_call hn hdf fun w s₀ s₁ mg mb fa o pm cd doc a vs ns G Y ho hd hcd hmg hobj hints hlen hg => ?_
  obtain ⟨fd, hb, hF⟩ := F w mg fa _ (hY w _ Y) G.T.g hmg
  exact lawG_call (hY w _ Y) G.T.g G.T.b G.T.builtins G.T.nolimit hg hobj hints hlen hn2 hr hF hb (hf ns hlen)
end DL
end
section
namespace DL
open PySem PySem.Spec PyProof.Rows L2
/-! ### x = [..] -/
theorem ds_setLc {X : Cx} {W : WX} {i : Nat} {y : Str} {py : Pos} {elt tg iter : Expr} {ifs : List Expr} {scope : Scope} {own : List (Str × Nat)} {vsT : List Nat} {pos spos : Pos} {mi : MI} {g : MG} {mt : MT} {me : ME} (hc : X.calm = true) (hN : X.N.Nodup) (hy : X.N[i]? = some y) (hyl : X.env.scope.names.lookup y = some .local)
    (hsw : swapsWith (.ListComp elt [⟨tg, iter, ifs, 0⟩] scope pos) (some (.Name y py)) spos.line X.env = pure true) (hi : DI X W tg iter mi) (ok : BlkOk X.N X.env.scope scope own)
    (hg : ∀ (s : Shared) (H : Hp) (C : Addr) (cl : List (Str × Addr)) (fp : List Addr), DG (X.blk s H scope (compEnvC scope cl C X.env) fp) vsT tg g) (hsub : ∀ i ∈ vsT, i ∈ own.map (·.2))
    (ht : ∀ (s : Shared) (H : Hp) (C : Addr) (cl : List (Str × Addr)) (fp : List Addr), DPT (X.blk s H scope (compEnvC scope cl C X.env) fp) W0 ifs mt)
    (he : ∀ (s : Shared) (H : Hp) (C : Addr) (cl : List (Str × Addr)) (fp : List Addr), DE (X.blk s H scope (compEnvC scope cl C X.env) fp) W0 elt me) (hs : ∀ x, foldedSetIterable iter X.env x = pure x := by intro _; rfl) :
    DS X W (.Assign [.Name y py] (.ListComp elt [⟨tg, iter, ifs, 0⟩] scope pos) spos) (mSet i (mLc (own.map (·.2)) mi g mt me)) :=
  PS.imp (ps_setLc hc hN hy hyl hsw hi ok hg ht he hs) fun D σ H h => lc_ok hsub (set_ok h)
/-- a module's whole number -/
theorem de_gi {X : Cx} {W : WX} {x : Str} {i : Int} {t : Tok} {pos : Pos} (hg : Gl X x) (hm : X.mg x = some (.int i t)) (hd : (x == ("__debug__" : Str)) = false := by decide) : DE X W (.Name x pos) (mC (.int i)) :=
  de_c (pe_glob hg hm (v := .int i) ⟨_, rfl⟩ hd) fun _ _ => ⟨fun _ _ e => e, .int i⟩
end DL
end
section
namespace LW
open PySem PySem.Spec PyProof.Rows L2 DL
theorem room80 {k : Nat} {A : Around} (r : Room k A) : A.units + 80 < cLine := by have := r.un; omega
abbrev topS (i : Nat) : Stmt := PySem.Challenge.pw_shatterlots_k84_whole_lines_and_sizes.main.body.getD i (.Pass ⟨0, 0, 0, 0⟩)
abbrev s__law_dice : Stmt := topS 55
abbrev N__law_dice : List Str := ["script", "spot", "cell", "left"]
abbrev s__law_roll : Stmt := topS 56
abbrev N__law_roll : List Str := ["dice", "total", "found", "one", "two"]
abbrev s__law_parts : Stmt := topS 58
abbrev N__law_parts : List Str := ["lot", "found", "x", "part"]
abbrev s__law_all_lots : Stmt := topS 59
abbrev N__law_all_lots : List Str := ["n"]
abbrev s__law_md_changes : Stmt := topS 65
abbrev N__law_md_changes : List Str := ["n", "lot", "x"]
abbrev s_is_whole : Stmt := topS 6
abbrev N_is_whole : List Str := ["value"]
abbrev s_is_near : Stmt := topS 7
abbrev N_is_near : List Str := ["value"]
abbrev s_require_number : Stmt := topS 10
abbrev N_require_number : List Str := ["value", "least", "most"]
abbrev s_require_things : Stmt := topS 23
abbrev N_require_things : List Str := ["n"]
abbrev s_lot_of : Stmt := topS 19
abbrev N_lot_of : List Str := ["marks", "x"]
abbrev s_family_by : Stmt := topS 21
abbrev N_family_by : List Str := ["n", "marks", "one"]
abbrev s_thresholds : Stmt := topS 42
abbrev N_thresholds : List Str := ["n", "i"]
abbrev s_stretches_of : Stmt := topS 40
abbrev N_stretches_of : List Str := ["n", "found", "first", "last"]
abbrev s_stretches : Stmt := topS 43
abbrev N_stretches : List Str := ["n"]
abbrev s_require_things_and_size : Stmt := topS 41
abbrev N_require_things_and_size : List Str := ["n", "k"]
abbrev s_changes_of : Stmt := topS 39
abbrev N_changes_of : List Str := ["n", "one", "row", "x", "here", "there"]
abbrev s_up_to_changes : Stmt := topS 44
abbrev N_up_to_changes : List Str := ["n", "k", "one"]
abbrev s_size_of : Stmt := topS 27
abbrev N_size_of : List Str := ["part", "found", "left"]
abbrev s_at_most : Stmt := topS 45
abbrev N_at_most : List Str := ["n", "k", "one"]
abbrev s_just : Stmt := topS 46
abbrev N_just : List Str := ["n", "k", "one"]
abbrev s__law_ascending : Stmt := topS 57
abbrev N__law_ascending : List Str := ["items", "one"]
abbrev s__law_family : Stmt := topS 60
abbrev N__law_family : List Str := ["n", "lots"]
abbrev s__law_thresholds : Stmt := topS 61
abbrev N__law_thresholds : List Str := ["n", "k"]
abbrev s__law_stretches : Stmt := topS 62
abbrev N__law_stretches : List Str := ["n", "found", "first", "last"]
abbrev s__law_at_most : Stmt := topS 63
abbrev N__law_at_most : List Str := ["n", "d", "lot"]
abbrev s__law_cr_choose : Stmt := topS 64
abbrev N__law_cr_choose : List Str := ["n", "k", "found", "at"]
abbrev s__law_sums_upto : Stmt := topS 66
abbrev N__law_sums_upto : List Str := ["n", "k", "j"]
abbrev s__law_lots_right : Stmt := topS 67
abbrev N__law_lots_right : List Str := ["n", "k", "every", "changes", "lot", "told", "due"]
abbrev s_is_within : Stmt := topS 8
abbrev N_is_within : List Str := ["value", "least", "most"]
abbrev s_is_row_of : Stmt := topS 11
abbrev N_is_row_of : List Str := ["value", "least", "most", "one"]
abbrev s_is_ascending : Stmt := topS 9
abbrev N_is_ascending : List Str := ["items", "one", "other"]
abbrev s_is_rising_row : Stmt := topS 12
abbrev N_is_rising_row : List Str := ["value", "most"]
abbrev s_is_lot_in : Stmt := topS 16
abbrev N_is_lot_in : List Str := ["n", "value"]
abbrev s_is_family_in : Stmt := topS 17
abbrev N_is_family_in : List Str := ["value", "n", "lots", "lot"]
abbrev s_require_family : Stmt := topS 22
abbrev N_require_family : List Str := ["value"]
abbrev s_marks_of : Stmt := topS 18
abbrev N_marks_of : List Str := ["lot", "found", "x"]
abbrev s_marks_in : Stmt := topS 20
abbrev N_marks_in : List Str := ["family", "lot"]
abbrev s_traced : Stmt := topS 28
abbrev N_traced : List Str := ["marks", "part", "one"]
abbrev s_shown_in : Stmt := topS 29
abbrev N_shown_in : List Str := ["n", "marks", "part"]
abbrev s_shown_parts_in : Stmt := topS 30
abbrev N_shown_parts_in : List Str := ["n", "marks", "found", "at", "part", "x"]
abbrev s_dimension_in : Stmt := topS 31
abbrev N_dimension_in : List Str := ["n", "marks", "part"]
abbrev s_dimension : Stmt := topS 37
abbrev N_dimension : List Str := ["family"]
abbrev s_require_size : Stmt := topS 34
abbrev N_require_size : List Str := ["d"]
abbrev s_require_family_and_size : Stmt := topS 35
abbrev N_require_family_and_size : List Str := ["family", "d"]
abbrev s_choose : Stmt := topS 32
abbrev N_choose : List Str := ["many", "few", "found", "at"]
abbrev s_sauer_in : Stmt := topS 33
abbrev N_sauer_in : List Str := ["n", "d", "k"]
abbrev s_is_small_in : Stmt := topS 51
abbrev N_is_small_in : List Str := ["n", "marks", "d"]
abbrev s_is_greatest_in : Stmt := topS 52
abbrev N_is_greatest_in : List Str := ["n", "marks", "d"]
abbrev s_is_greatest : Stmt := topS 53
abbrev N_is_greatest : List Str := ["family", "d"]
abbrev s_is_extremal_in : Stmt := topS 48
abbrev N_is_extremal_in : List Str := ["n", "marks"]
abbrev s_is_extremal : Stmt := topS 49
abbrev N_is_extremal : List Str := ["family"]
abbrev s_shown_parts : Stmt := topS 36
abbrev N_shown_parts : List Str := ["family", "part"]
abbrev s__law_shown_right : Stmt := topS 68
abbrev N__law_shown_right : List Str := ["n", "k", "told", "few", "part"]
abbrev s_law : Stmt := topS 69
abbrev N_law : List Str := ["script", "spot", "dice", "n", "square", "told", "due"]
structure Facts (K : PySem.W.Frag) (mg : Str → Option Value) where
  f__law_dice : Addr
  d__law_dice : FuncData
  f__law_roll : Addr
  d__law_roll : FuncData
  f__law_parts : Addr
  d__law_parts : FuncData
  f__law_all_lots : Addr
  d__law_all_lots : FuncData
  f__law_md_changes : Addr
  d__law_md_changes : FuncData
  f_is_whole : Addr
  d_is_whole : FuncData
  f_is_near : Addr
  d_is_near : FuncData
  f_require_number : Addr
  d_require_number : FuncData
  f_require_things : Addr
  d_require_things : FuncData
  f_lot_of : Addr
  d_lot_of : FuncData
  f_family_by : Addr
  d_family_by : FuncData
  f_thresholds : Addr
  d_thresholds : FuncData
  f_stretches_of : Addr
  d_stretches_of : FuncData
  f_stretches : Addr
  d_stretches : FuncData
  f_require_things_and_size : Addr
  d_require_things_and_size : FuncData
  f_changes_of : Addr
  d_changes_of : FuncData
  f_up_to_changes : Addr
  d_up_to_changes : FuncData
  f_size_of : Addr
  d_size_of : FuncData
  f_at_most : Addr
  d_at_most : FuncData
  f_just : Addr
  d_just : FuncData
  f__law_ascending : Addr
  d__law_ascending : FuncData
  f__law_family : Addr
  d__law_family : FuncData
  f__law_thresholds : Addr
  d__law_thresholds : FuncData
  f__law_stretches : Addr
  d__law_stretches : FuncData
  f__law_at_most : Addr
  d__law_at_most : FuncData
  f__law_cr_choose : Addr
  d__law_cr_choose : FuncData
  f__law_sums_upto : Addr
  d__law_sums_upto : FuncData
  f__law_lots_right : Addr
  d__law_lots_right : FuncData
  f_is_within : Addr
  d_is_within : FuncData
  f_is_row_of : Addr
  d_is_row_of : FuncData
  f_is_ascending : Addr
  d_is_ascending : FuncData
  f_is_rising_row : Addr
  d_is_rising_row : FuncData
  f_is_lot_in : Addr
  d_is_lot_in : FuncData
  f_is_family_in : Addr
  d_is_family_in : FuncData
  f_require_family : Addr
  d_require_family : FuncData
  f_marks_of : Addr
  d_marks_of : FuncData
  f_marks_in : Addr
  d_marks_in : FuncData
  f_traced : Addr
  d_traced : FuncData
  f_shown_in : Addr
  d_shown_in : FuncData
  f_shown_parts_in : Addr
  d_shown_parts_in : FuncData
  f_dimension_in : Addr
  d_dimension_in : FuncData
  f_dimension : Addr
  d_dimension : FuncData
  f_require_size : Addr
  d_require_size : FuncData
  f_require_family_and_size : Addr
  d_require_family_and_size : FuncData
  f_choose : Addr
  d_choose : FuncData
  f_sauer_in : Addr
  d_sauer_in : FuncData
  f_is_small_in : Addr
  d_is_small_in : FuncData
  f_is_greatest_in : Addr
  d_is_greatest_in : FuncData
  f_is_greatest : Addr
  d_is_greatest : FuncData
  f_is_extremal_in : Addr
  d_is_extremal_in : FuncData
  f_is_extremal : Addr
  d_is_extremal : FuncData
  f_shown_parts : Addr
  d_shown_parts : FuncData
  f__law_shown_right : Addr
  d__law_shown_right : FuncData
  f_law : Addr
  d_law : FuncData
  F__law_dice : Fun K "_law_dice" "_law_dice" s__law_dice f__law_dice d__law_dice
  g__law_dice : mg "_law_dice" = some (.ref f__law_dice)
  b__law_dice : Binds K d__law_dice ["script", "spot"] []
  F__law_roll : Fun K "_law_roll" "_law_roll" s__law_roll f__law_roll d__law_roll
  g__law_roll : mg "_law_roll" = some (.ref f__law_roll)
  b__law_roll : Binds K d__law_roll ["dice", "total"] []
  F__law_parts : Fun K "_law_parts" "_law_parts" s__law_parts f__law_parts d__law_parts
  g__law_parts : mg "_law_parts" = some (.ref f__law_parts)
  b__law_parts : Binds K d__law_parts ["lot"] []
  F__law_all_lots : Fun K "_law_all_lots" "_law_all_lots" s__law_all_lots f__law_all_lots d__law_all_lots
  g__law_all_lots : mg "_law_all_lots" = some (.ref f__law_all_lots)
  b__law_all_lots : Binds K d__law_all_lots ["n"] []
  F__law_md_changes : Fun K "_law_md_changes" "_law_md_changes" s__law_md_changes f__law_md_changes d__law_md_changes
  g__law_md_changes : mg "_law_md_changes" = some (.ref f__law_md_changes)
  b__law_md_changes : Binds K d__law_md_changes ["n", "lot"] []
  F_is_whole : Fun K "is_whole" "is_whole" s_is_whole f_is_whole d_is_whole
  g_is_whole : mg "is_whole" = some (.ref f_is_whole)
  b_is_whole : Binds K d_is_whole ["value"] []
  F_is_near : Fun K "is_near" "is_near" s_is_near f_is_near d_is_near
  g_is_near : mg "is_near" = some (.ref f_is_near)
  b_is_near : Binds K d_is_near ["value"] []
  F_require_number : Fun K "require_number" "require_number" s_require_number f_require_number d_require_number
  g_require_number : mg "require_number" = some (.ref f_require_number)
  b_require_number : Binds K d_require_number ["value", "least", "most"] []
  F_require_things : Fun K "require_things" "require_things" s_require_things f_require_things d_require_things
  g_require_things : mg "require_things" = some (.ref f_require_things)
  b_require_things : Binds K d_require_things ["n"] []
  F_lot_of : Fun K "lot_of" "lot_of" s_lot_of f_lot_of d_lot_of
  g_lot_of : mg "lot_of" = some (.ref f_lot_of)
  b_lot_of : Binds K d_lot_of ["marks"] []
  F_family_by : Fun K "family_by" "family_by" s_family_by f_family_by d_family_by
  g_family_by : mg "family_by" = some (.ref f_family_by)
  b_family_by : Binds K d_family_by ["n", "marks"] []
  F_thresholds : Fun K "thresholds" "thresholds" s_thresholds f_thresholds d_thresholds
  g_thresholds : mg "thresholds" = some (.ref f_thresholds)
  b_thresholds : Binds K d_thresholds ["n"] []
  F_stretches_of : Fun K "stretches_of" "stretches_of" s_stretches_of f_stretches_of d_stretches_of
  g_stretches_of : mg "stretches_of" = some (.ref f_stretches_of)
  b_stretches_of : Binds K d_stretches_of ["n"] []
  F_stretches : Fun K "stretches" "stretches" s_stretches f_stretches d_stretches
  g_stretches : mg "stretches" = some (.ref f_stretches)
  b_stretches : Binds K d_stretches ["n"] []
  F_require_things_and_size : Fun K "require_things_and_size" "require_things_and_size" s_require_things_and_size f_require_things_and_size d_require_things_and_size
  g_require_things_and_size : mg "require_things_and_size" = some (.ref f_require_things_and_size)
  b_require_things_and_size : Binds K d_require_things_and_size ["n", "k"] []
  F_changes_of : Fun K "changes_of" "changes_of" s_changes_of f_changes_of d_changes_of
  g_changes_of : mg "changes_of" = some (.ref f_changes_of)
  b_changes_of : Binds K d_changes_of ["n", "one"] []
  F_up_to_changes : Fun K "up_to_changes" "up_to_changes" s_up_to_changes f_up_to_changes d_up_to_changes
  g_up_to_changes : mg "up_to_changes" = some (.ref f_up_to_changes)
  b_up_to_changes : Binds K d_up_to_changes ["n", "k"] []
  F_size_of : Fun K "size_of" "size_of" s_size_of f_size_of d_size_of
  g_size_of : mg "size_of" = some (.ref f_size_of)
  b_size_of : Binds K d_size_of ["part"] []
  F_at_most : Fun K "at_most" "at_most" s_at_most f_at_most d_at_most
  g_at_most : mg "at_most" = some (.ref f_at_most)
  b_at_most : Binds K d_at_most ["n", "k"] []
  F_just : Fun K "just" "just" s_just f_just d_just
  g_just : mg "just" = some (.ref f_just)
  b_just : Binds K d_just ["n", "k"] []
  F__law_ascending : Fun K "_law_ascending" "_law_ascending" s__law_ascending f__law_ascending d__law_ascending
  g__law_ascending : mg "_law_ascending" = some (.ref f__law_ascending)
  b__law_ascending : Binds K d__law_ascending ["items"] []
  F__law_family : Fun K "_law_family" "_law_family" s__law_family f__law_family d__law_family
  g__law_family : mg "_law_family" = some (.ref f__law_family)
  b__law_family : Binds K d__law_family ["n", "lots"] []
  F__law_thresholds : Fun K "_law_thresholds" "_law_thresholds" s__law_thresholds f__law_thresholds d__law_thresholds
  g__law_thresholds : mg "_law_thresholds" = some (.ref f__law_thresholds)
  b__law_thresholds : Binds K d__law_thresholds ["n"] []
  F__law_stretches : Fun K "_law_stretches" "_law_stretches" s__law_stretches f__law_stretches d__law_stretches
  g__law_stretches : mg "_law_stretches" = some (.ref f__law_stretches)
  b__law_stretches : Binds K d__law_stretches ["n"] []
  F__law_at_most : Fun K "_law_at_most" "_law_at_most" s__law_at_most f__law_at_most d__law_at_most
  g__law_at_most : mg "_law_at_most" = some (.ref f__law_at_most)
  b__law_at_most : Binds K d__law_at_most ["n", "d"] []
  F__law_cr_choose : Fun K "_law_cr_choose" "_law_cr_choose" s__law_cr_choose f__law_cr_choose d__law_cr_choose
  g__law_cr_choose : mg "_law_cr_choose" = some (.ref f__law_cr_choose)
  b__law_cr_choose : Binds K d__law_cr_choose ["n", "k"] []
  F__law_sums_upto : Fun K "_law_sums_upto" "_law_sums_upto" s__law_sums_upto f__law_sums_upto d__law_sums_upto
  g__law_sums_upto : mg "_law_sums_upto" = some (.ref f__law_sums_upto)
  b__law_sums_upto : Binds K d__law_sums_upto ["n", "k"] []
  F__law_lots_right : Fun K "_law_lots_right" "_law_lots_right" s__law_lots_right f__law_lots_right d__law_lots_right
  g__law_lots_right : mg "_law_lots_right" = some (.ref f__law_lots_right)
  b__law_lots_right : Binds K d__law_lots_right ["n", "k"] []
  F_is_within : Fun K "is_within" "is_within" s_is_within f_is_within d_is_within
  g_is_within : mg "is_within" = some (.ref f_is_within)
  b_is_within : Binds K d_is_within ["value", "least", "most"] []
  F_is_row_of : Fun K "is_row_of" "is_row_of" s_is_row_of f_is_row_of d_is_row_of
  g_is_row_of : mg "is_row_of" = some (.ref f_is_row_of)
  b_is_row_of : Binds K d_is_row_of ["value", "least", "most"] []
  F_is_ascending : Fun K "is_ascending" "is_ascending" s_is_ascending f_is_ascending d_is_ascending
  g_is_ascending : mg "is_ascending" = some (.ref f_is_ascending)
  b_is_ascending : Binds K d_is_ascending ["items"] []
  F_is_rising_row : Fun K "is_rising_row" "is_rising_row" s_is_rising_row f_is_rising_row d_is_rising_row
  g_is_rising_row : mg "is_rising_row" = some (.ref f_is_rising_row)
  b_is_rising_row : Binds K d_is_rising_row ["value", "most"] []
  F_is_lot_in : Fun K "is_lot_in" "is_lot_in" s_is_lot_in f_is_lot_in d_is_lot_in
  g_is_lot_in : mg "is_lot_in" = some (.ref f_is_lot_in)
  b_is_lot_in : Binds K d_is_lot_in ["n", "value"] []
  F_is_family_in : Fun K "is_family_in" "is_family_in" s_is_family_in f_is_family_in d_is_family_in
  g_is_family_in : mg "is_family_in" = some (.ref f_is_family_in)
  b_is_family_in : Binds K d_is_family_in ["value"] []
  F_require_family : Fun K "require_family" "require_family" s_require_family f_require_family d_require_family
  g_require_family : mg "require_family" = some (.ref f_require_family)
  b_require_family : Binds K d_require_family ["value"] []
  F_marks_of : Fun K "marks_of" "marks_of" s_marks_of f_marks_of d_marks_of
  g_marks_of : mg "marks_of" = some (.ref f_marks_of)
  b_marks_of : Binds K d_marks_of ["lot"] []
  F_marks_in : Fun K "marks_in" "marks_in" s_marks_in f_marks_in d_marks_in
  g_marks_in : mg "marks_in" = some (.ref f_marks_in)
  b_marks_in : Binds K d_marks_in ["family"] []
  F_traced : Fun K "traced" "traced" s_traced f_traced d_traced
  g_traced : mg "traced" = some (.ref f_traced)
  b_traced : Binds K d_traced ["marks", "part"] []
  F_shown_in : Fun K "shown_in" "shown_in" s_shown_in f_shown_in d_shown_in
  g_shown_in : mg "shown_in" = some (.ref f_shown_in)
  b_shown_in : Binds K d_shown_in ["n", "marks", "part"] []
  F_shown_parts_in : Fun K "shown_parts_in" "shown_parts_in" s_shown_parts_in f_shown_parts_in d_shown_parts_in
  g_shown_parts_in : mg "shown_parts_in" = some (.ref f_shown_parts_in)
  b_shown_parts_in : Binds K d_shown_parts_in ["n", "marks"] []
  F_dimension_in : Fun K "dimension_in" "dimension_in" s_dimension_in f_dimension_in d_dimension_in
  g_dimension_in : mg "dimension_in" = some (.ref f_dimension_in)
  b_dimension_in : Binds K d_dimension_in ["n", "marks"] []
  F_dimension : Fun K "dimension" "dimension" s_dimension f_dimension d_dimension
  g_dimension : mg "dimension" = some (.ref f_dimension)
  b_dimension : Binds K d_dimension ["family"] []
  F_require_size : Fun K "require_size" "require_size" s_require_size f_require_size d_require_size
  g_require_size : mg "require_size" = some (.ref f_require_size)
  b_require_size : Binds K d_require_size ["d"] []
  F_require_family_and_size : Fun K "require_family_and_size" "require_family_and_size" s_require_family_and_size f_require_family_and_size d_require_family_and_size
  g_require_family_and_size : mg "require_family_and_size" = some (.ref f_require_family_and_size)
  b_require_family_and_size : Binds K d_require_family_and_size ["family", "d"] []
  F_choose : Fun K "choose" "choose" s_choose f_choose d_choose
  g_choose : mg "choose" = some (.ref f_choose)
  b_choose : Binds K d_choose ["many", "few"] []
  F_sauer_in : Fun K "sauer_in" "sauer_in" s_sauer_in f_sauer_in d_sauer_in
  g_sauer_in : mg "sauer_in" = some (.ref f_sauer_in)
  b_sauer_in : Binds K d_sauer_in ["n", "d"] []
  F_is_small_in : Fun K "is_small_in" "is_small_in" s_is_small_in f_is_small_in d_is_small_in
  g_is_small_in : mg "is_small_in" = some (.ref f_is_small_in)
  b_is_small_in : Binds K d_is_small_in ["n", "marks", "d"] []
  F_is_greatest_in : Fun K "is_greatest_in" "is_greatest_in" s_is_greatest_in f_is_greatest_in d_is_greatest_in
  g_is_greatest_in : mg "is_greatest_in" = some (.ref f_is_greatest_in)
  b_is_greatest_in : Binds K d_is_greatest_in ["n", "marks", "d"] []
  F_is_greatest : Fun K "is_greatest" "is_greatest" s_is_greatest f_is_greatest d_is_greatest
  g_is_greatest : mg "is_greatest" = some (.ref f_is_greatest)
  b_is_greatest : Binds K d_is_greatest ["family", "d"] []
  F_is_extremal_in : Fun K "is_extremal_in" "is_extremal_in" s_is_extremal_in f_is_extremal_in d_is_extremal_in
  g_is_extremal_in : mg "is_extremal_in" = some (.ref f_is_extremal_in)
  b_is_extremal_in : Binds K d_is_extremal_in ["n", "marks"] []
  F_is_extremal : Fun K "is_extremal" "is_extremal" s_is_extremal f_is_extremal d_is_extremal
  g_is_extremal : mg "is_extremal" = some (.ref f_is_extremal)
  b_is_extremal : Binds K d_is_extremal ["family"] []
  F_shown_parts : Fun K "shown_parts" "shown_parts" s_shown_parts f_shown_parts d_shown_parts
  g_shown_parts : mg "shown_parts" = some (.ref f_shown_parts)
  b_shown_parts : Binds K d_shown_parts ["family"] []
  F__law_shown_right : Fun K "_law_shown_right" "_law_shown_right" s__law_shown_right f__law_shown_right d__law_shown_right
  g__law_shown_right : mg "_law_shown_right" = some (.ref f__law_shown_right)
  b__law_shown_right : Binds K d__law_shown_right ["n", "k"] []
  F_law : Fun K "law" "law" s_law f_law d_law
  g_law : mg "law" = some (.ref f_law)
  b_law : Binds K d_law ["script"] []
  z_abs : mg "abs" = none
  z_all : mg "all" = none
  z_bool : mg "bool" = none
  z_dict : mg "dict" = none
  z_int : mg "int" = none
  z_isinstance : mg "isinstance" = none
  z_len : mg "len" = none
  z_max : mg "max" = none
  z_min : mg "min" = none
  z_range : mg "range" = none
  z_repr : mg "repr" = none
  z_sorted : mg "sorted" = none
  z_sum : mg "sum" = none
  z_tuple : mg "tuple" = none
  z_zip : mg "zip" = none
  t_FAR : Tok
  c_FAR : mg "FAR" = some (.int (1000000000000000000000000000000000000000000000000000000000000) t_FAR)
  t_LEAST_SIZE : Tok
  c_LEAST_SIZE : mg "LEAST_SIZE" = some (.int (-1) t_LEAST_SIZE)
  t_MOST_SIZE : Tok
  c_MOST_SIZE : mg "MOST_SIZE" = some (.int (10) t_MOST_SIZE)
  t_MOST_THINGS : Tok
  c_MOST_THINGS : mg "MOST_THINGS" = some (.int (10) t_MOST_THINGS)
  t_PAIR_SIZE : Tok
  c_PAIR_SIZE : mg "PAIR_SIZE" = some (.int (2) t_PAIR_SIZE)
/-! ### what the defs do -/
def m__law_dice : MS := mSeq (mSet 2 (mIf (mTestB (mOp gLt (mVar 1) (mCB gLen (mCons (mVar 0) (mNil))))) (mCB gInt (mCons (mIx gIx (mVar 0) (mVar 1)) (mNil))) (mOp gAdd (mOp gMul (mC (.int 97)) (mVar 1)) (mC (.int 43))))) (mSeq (mSet 3 (mOp gMod (mCB gMax (mCons (mC (.int 0)) (mCons (mOp gSub (mCB gAbs (mCons (mVar 2) (mNil))) (mOp gPow (mC (.int 10)) (mC (.int 17)))) (mNil)))) (mOp gMul (mOp gPow (mC (.int 10)) (mC (.int 60))) (mOp gPow (mC (.int 10)) (mC (.int 60)))))) (mRet (mLst (mCons (mVar 3) (mCons (mOp gAdd (mOp gAdd (mOp gAdd (mOp gMul (mOp gMod (mCB gAbs (mCons (mVar 2) (mNil))) (mC (.int 1152921504606846737))) (mC (.int 37))) (mOp gMul (mC (.int 859)) (mVar 1))) (mOp gMul (mC (.int 31)) (mCB gInt (mCons (mOp gLt (mVar 2) (mC (.int 0))) (mNil))))) (mC (.int 17))) (mCons (mC (.int 0)) (mNil)))))))
def r__law_dice : List D → Res RF := runF 4 m__law_dice
def m__law_roll : MS := mSeq (mIfS (mTestB (mOp gGt (mIx gIx (mVar 0) (mC (.int 0))) (mC (.int 0)))) (mSeq (mSet 2 (mOp gMod (mCB gInt (mCons (mIx gIx (mVar 0) (mC (.int 0))) (mNil))) (mVar 1))) (mSeq (mPut 0 (mC (.int 0)) (mOp gFdiv (mIx gIx (mVar 0) (mC (.int 0))) (mVar 1))) (mRet (mVar 2)))) (mNx)) (mSeq (mPut 0 (mC (.int 2)) (mOp gAdd (mIx gIx (mVar 0) (mC (.int 2))) (mC (.int 1)))) (mSeq (mSet 3 (mOp gMod (mCB gInt (mCons (mOp gAdd (mIx gIx (mVar 0) (mC (.int 1))) (mOp gMul (mC (.int 15486209)) (mIx gIx (mVar 0) (mC (.int 2))))) (mNil))) (mC (.int 2305843009213693951)))) (mSeq (mSet 4 (mOp gAdd (mOp gMul (mOp gMod (mCB gInt (mCons (mOp gAdd (mOp gMul (mVar 3) (mVar 3)) (mOp gMul (mC (.int 199)) (mIx gIx (mVar 0) (mC (.int 2))))) (mNil))) (mC (.int 2305843009213693907))) (mC (.int 7368751))) (mVar 3))) (mRet (mOp gMod (mCB gInt (mCons (mOp gFdiv (mVar 4) (mC (.int 65536))) (mNil))) (mVar 1))))))
def r__law_roll : D → List D → Res (RF × D) := runFI 5 m__law_roll
def m__law_parts : MS := mSeq (mSet 1 (mLst (mCons (mTup (mNil)) (mNil)))) (mSeq (mFor (mItV (mVar 0)) (gmN 2) (mSet 1 (mOp gAdd (mVar 1) (mLc [3] (mItV (mVar 1)) (gmN 3) (mYes) (mOp gAdd (mVar 3) (mTup (mCons (mVar 2) (mNil)))))))) (mRet (mCB gSorted (mCons (mVar 1) (mNil)))))
def r__law_parts : List D → Res RF := runF 4 m__law_parts
def m__law_all_lots : MS := mRet (mCall 1 r__law_parts (mCons (mRg1 .tup (mVar 0)) (mNil)))
def r__law_all_lots : List D → Res RF := runF 1 m__law_all_lots
def m__law_md_changes : MS := mRet (mCB gLen (mCons (mLc [2] (mItR rngOf2 (mCons (mC (.int 1)) (mCons (mVar 0) (mNil)))) (gmN 2) (mTestB (mOp gNe (mOp gIn (mVar 2) (mVar 1)) (mOp gIn (mOp gSub (mVar 2) (mC (.int 1))) (mVar 1)))) (mC (.int 1))) (mNil)))
def r__law_md_changes : List D → Res RF := runF 3 m__law_md_changes
def m_is_whole : MS := mRet (mAnd (mCB gIsi (mCons (mVar 0) (mCons (mC (.ty "int")) (mNil)))) (mNot (mCB gIsi (mCons (mVar 0) (mCons (mC (.ty "bool")) (mNil))))))
def r_is_whole : List D → Res RF := runF 1 m_is_whole
def m_is_near : MS := mRet (mAnd (mCall 1 r_is_whole (mCons (mVar 0) (mNil))) (mChain gLt gLt (mUn gNeg (mC (.int (1000000000000000000000000000000000000000000000000000000000000)))) (mVar 0) (mC (.int (1000000000000000000000000000000000000000000000000000000000000)))))
def r_is_near : List D → Res RF := runF 1 m_is_near
def m_require_number : MS := mIfS (mOrT (mNotT (mTest (mCall 1 r_is_near (mCons (mVar 0) (mNil))))) (mOrT (mAndT (mTestB (mOp gIsNot (mVar 1) (mC .non))) (mTestB (mOp gLt (mVar 0) (mVar 1)))) (mAndT (mTestB (mOp gIsNot (mVar 2) (mC .non))) (mTestB (mOp gGt (mVar 0) (mVar 2)))))) (mNever) (mNx)
def r_require_number : List D → Res RF := runF 3 m_require_number
def m_require_things : MS := mExpr (mCall 3 r_require_number (mCons (mVar 0) (mCons (mC (.int 1)) (mCons (mC (.int (10))) (mNil)))))
def r_require_things : List D → Res RF := runF 1 m_require_things
def m_lot_of : MS := mRet (mCB gTuple (mCons (mLc [1] (mItR rngOf1 (mCons (mUn gBits (mVar 0)) (mNil))) (gmN 1) (mTestB (mOp gEq (mOp gBand (mOp gShr (mVar 0) (mVar 1)) (mC (.int 1))) (mC (.int 1)))) (mVar 1)) (mNil)))
def r_lot_of : List D → Res RF := runF 2 m_lot_of
def m_family_by : MS := mRet (mTup (mCons (mVar 0) (mCons (mCB gTuple (mCons (mCB gSorted (mCons (mDc [2] (mItV (mVar 1)) (gmN 2) (mYes) (mCall 1 r_lot_of (mCons (mVar 2) (mNil))) (mC (.bl true))) (mNil))) (mNil))) (mNil))))
def r_family_by : List D → Res RF := runF 3 m_family_by
def m_thresholds : MS := mSeq (mExpr (mCall 1 r_require_things (mCons (mVar 0) (mNil)))) (mRet (mCall 2 r_family_by (mCons (mVar 0) (mCons (mLc [1] (mItR rngOf1 (mCons (mOp gAdd (mVar 0) (mC (.int 1))) (mNil))) (gmN 1) (mYes) (mOp gSub (mOp gShl (mC (.int 1)) (mVar 1)) (mC (.int 1)))) (mNil)))))
def r_thresholds : List D → Res RF := runF 2 m_thresholds
def m_stretches_of : MS := mSeq (mSet 1 (mLst (mCons (mC (.int 0)) (mNil)))) (mSeq (mFor (mItR rngOf1 (mCons (mVar 0) (mNil))) (gmN 2) (mExpr (mMet 1 tyL gExtend (mCons (mLc [3] (mItR rngOf2 (mCons (mOp gAdd (mVar 2) (mC (.int 1))) (mCons (mOp gAdd (mVar 0) (mC (.int 1))) (mNil)))) (gmN 3) (mYes) (mOp gSub (mOp gShl (mC (.int 1)) (mVar 3)) (mOp gShl (mC (.int 1)) (mVar 2)))) (mNil))))) (mRet (mVar 1)))
def r_stretches_of : List D → Res RF := runF 4 m_stretches_of
def m_stretches : MS := mSeq (mExpr (mCall 1 r_require_things (mCons (mVar 0) (mNil)))) (mRet (mCall 2 r_family_by (mCons (mVar 0) (mCons (mCall 1 r_stretches_of (mCons (mVar 0) (mNil))) (mNil)))))
def r_stretches : List D → Res RF := runF 1 m_stretches
def m_require_things_and_size : MS := mSeq (mExpr (mCall 1 r_require_things (mCons (mVar 0) (mNil)))) (mExpr (mCall 3 r_require_number (mCons (mVar 1) (mCons (mC (.int 0)) (mCons (mVar 0) (mNil))))))
def r_require_things_and_size : List D → Res RF := runF 2 m_require_things_and_size
def m_changes_of : MS := mSeq (mSet 2 (mLc [3] (mItR rngOf1 (mCons (mVar 0) (mNil))) (gmN 3) (mYes) (mOp gBand (mOp gShr (mVar 1) (mVar 3)) (mC (.int 1))))) (mRet (mCB gLen (mCons (mLc [4, 5] (mItF zipOf (mCons (mVar 2) (mCons (mSl (mVar 2) (mC (.int 1))) (mNil)))) (gmT 2 (gmCons (gmN 4) (gmCons (gmN 5) (gmNil)))) (mTestB (mOp gNe (mVar 4) (mVar 5))) (mC (.int 1))) (mNil))))
def r_changes_of : List D → Res RF := runF 6 m_changes_of
def m_up_to_changes : MS := mSeq (mExpr (mCall 2 r_require_things_and_size (mCons (mVar 0) (mCons (mVar 1) (mNil))))) (mRet (mCall 2 r_family_by (mCons (mVar 0) (mCons (mLc [2] (mItR rngOf1 (mCons (mOp gShl (mC (.int 1)) (mVar 0)) (mNil))) (gmN 2) (mTestB (mOp gLe (mCall 2 r_changes_of (mCons (mVar 0) (mCons (mVar 2) (mNil)))) (mVar 1))) (mVar 2)) (mNil)))))
def r_up_to_changes : List D → Res RF := runF 3 m_up_to_changes
def m_size_of : MS := mSeq (mPar 1 2 (mC (.int 0)) (mVar 0)) (mSeq (mWhile 2000 (mTestB (mOp gNe (mVar 2) (mC (.int 0)))) (mSeq (mAug 2 gBand (mOp gSub (mVar 2) (mC (.int 1)))) (mAug 1 gIadd (mC (.int 1))))) (mRet (mVar 1)))
def r_size_of : List D → Res RF := runF 3 m_size_of
def m_at_most : MS := mSeq (mExpr (mCall 2 r_require_things_and_size (mCons (mVar 0) (mCons (mVar 1) (mNil))))) (mRet (mCall 2 r_family_by (mCons (mVar 0) (mCons (mLc [2] (mItR rngOf1 (mCons (mOp gShl (mC (.int 1)) (mVar 0)) (mNil))) (gmN 2) (mTestB (mOp gLe (mCall 1 r_size_of (mCons (mVar 2) (mNil))) (mVar 1))) (mVar 2)) (mNil)))))
def r_at_most : List D → Res RF := runF 3 m_at_most
def m_just : MS := mSeq (mExpr (mCall 2 r_require_things_and_size (mCons (mVar 0) (mCons (mVar 1) (mNil))))) (mRet (mCall 2 r_family_by (mCons (mVar 0) (mCons (mLc [2] (mItR rngOf1 (mCons (mOp gShl (mC (.int 1)) (mVar 0)) (mNil))) (gmN 2) (mTestB (mOp gEq (mCall 1 r_size_of (mCons (mVar 2) (mNil))) (mVar 1))) (mVar 2)) (mNil)))))
def r_just : List D → Res RF := runF 3 m_just
def m__law_ascending : MS := mRet (mCB gSorted (mCons (mCB gDict (mCons (mLc [1] (mItV (mVar 0)) (gmN 1) (mYes) (mTup (mCons (mVar 1) (mCons (mC (.bl true)) (mNil))))) (mNil))) (mNil)))
def r__law_ascending : List D → Res RF := runF 2 m__law_ascending
def m__law_family : MS := mRet (mTup (mCons (mVar 0) (mCons (mCB gTuple (mCons (mCall 1 r__law_ascending (mCons (mVar 1) (mNil))) (mNil))) (mNil))))
def r__law_family : List D → Res RF := runF 2 m__law_family
def m__law_thresholds : MS := mRet (mCall 2 r__law_family (mCons (mVar 0) (mCons (mLc [1] (mItR rngOf1 (mCons (mOp gAdd (mVar 0) (mC (.int 1))) (mNil))) (gmN 1) (mYes) (mRg1 .tup (mVar 1))) (mNil))))
def r__law_thresholds : List D → Res RF := runF 2 m__law_thresholds
def m__law_stretches : MS := mSeq (mSet 1 (mLst (mCons (mTup (mNil)) (mNil)))) (mSeq (mFor (mItR rngOf1 (mCons (mVar 0) (mNil))) (gmN 2) (mExpr (mMet 1 tyL gExtend (mCons (mLc [3] (mItR rngOf2 (mCons (mOp gAdd (mVar 2) (mC (.int 1))) (mCons (mOp gAdd (mVar 0) (mC (.int 1))) (mNil)))) (gmN 3) (mYes) (mRg2 .tup (mVar 2) (mVar 3))) (mNil))))) (mRet (mCall 2 r__law_family (mCons (mVar 0) (mCons (mVar 1) (mNil))))))
def r__law_stretches : List D → Res RF := runF 4 m__law_stretches
def m__law_at_most : MS := mRet (mCall 2 r__law_family (mCons (mVar 0) (mCons (mLc [2] (mItV (mCall 1 r__law_all_lots (mCons (mVar 0) (mNil)))) (gmN 2) (mTestB (mOp gLe (mCB gLen (mCons (mVar 2) (mNil))) (mVar 1))) (mVar 2)) (mNil))))
def r__law_at_most : List D → Res RF := runF 3 m__law_at_most
def m__law_cr_choose : MS := mSeq (mSet 2 (mC (.int 1))) (mSeq (mFor (mItR rngOf1 (mCons (mVar 1) (mNil))) (gmN 3) (mSet 2 (mOp gFdiv (mOp gMul (mVar 2) (mOp gSub (mVar 0) (mVar 3))) (mOp gAdd (mVar 3) (mC (.int 1)))))) (mRet (mIf (mTestB (mChain gLe gLe (mC (.int 0)) (mVar 1) (mVar 0))) (mVar 2) (mC (.int 0)))))
def r__law_cr_choose : List D → Res RF := runF 4 m__law_cr_choose
def m__law_sums_upto : MS := mRet (mCB gSum (mCons (mLc [2] (mItR rngOf1 (mCons (mOp gAdd (mVar 1) (mC (.int 1))) (mNil))) (gmN 2) (mYes) (mCall 2 r__law_cr_choose (mCons (mVar 0) (mCons (mVar 2) (mNil))))) (mNil)))
def r__law_sums_upto : List D → Res RF := runF 3 m__law_sums_upto
def m__law_lots_right : MS := mSeq (mSet 2 (mCall 1 r__law_all_lots (mCons (mVar 0) (mNil)))) (mSeq (mSet 3 (mLc [4] (mItV (mVar 2)) (gmN 4) (mTestB (mOp gLe (mCall 2 r__law_md_changes (mCons (mVar 0) (mCons (mVar 4) (mNil)))) (mVar 1))) (mVar 4))) (mSeq (mSet 5 (mLst (mCons (mCall 1 r_thresholds (mCons (mVar 0) (mNil))) (mCons (mCall 1 r_stretches (mCons (mVar 0) (mNil))) (mCons (mCall 2 r_up_to_changes (mCons (mVar 0) (mCons (mVar 1) (mNil)))) (mCons (mCall 2 r_at_most (mCons (mVar 0) (mCons (mVar 1) (mNil)))) (mCons (mCall 2 r_just (mCons (mVar 0) (mCons (mVar 1) (mNil)))) (mNil)))))))) (mSeq (mSet 6 (mLst (mCons (mCall 1 r__law_thresholds (mCons (mVar 0) (mNil))) (mCons (mCall 1 r__law_stretches (mCons (mVar 0) (mNil))) (mCons (mTup (mCons (mVar 0) (mCons (mCB gTuple (mCons (mVar 3) (mNil))) (mNil)))) (mCons (mCall 2 r__law_at_most (mCons (mVar 0) (mCons (mVar 1) (mNil)))) (mNil))))))) (mSeq (mIfS (mTestB (mOp gNe (mCB gRepr (mCons (mVar 5) (mNil))) (mCB gRepr (mCons (mOp gAdd (mVar 6) (mLst (mCons (mTup (mCons (mVar 0) (mCons (mCB gTuple (mCons (mLc [4] (mItV (mVar 2)) (gmN 4) (mTestB (mOp gEq (mCB gLen (mCons (mVar 4) (mNil))) (mVar 1))) (mVar 4)) (mNil))) (mNil)))) (mNil)))) (mNil))))) (mRet (mC (.bl false))) (mNx)) (mRet (mAnd (mOp gEq (mCB gLen (mCons (mVar 3) (mNil))) (mOp gMul (mC (.int 2)) (mCall 2 r__law_sums_upto (mCons (mOp gSub (mVar 0) (mC (.int 1))) (mCons (mVar 1) (mNil)))))) (mOp gEq (mCB gLen (mCons (mIx gIx (mIx gIx (mVar 5) (mC (.int 1))) (mC (.int 1))) (mNil))) (mOp gAdd (mOp gFdiv (mOp gMul (mVar 0) (mOp gAdd (mVar 0) (mC (.int 1)))) (mC (.int 2))) (mC (.int 1))))))))))
def r__law_lots_right : List D → Res RF := runF 7 m__law_lots_right
def m_is_within : MS := mRet (mAnd (mCall 1 r_is_whole (mCons (mVar 0) (mNil))) (mChain gLe gLe (mVar 1) (mVar 0) (mVar 2)))
def r_is_within : List D → Res RF := runF 3 m_is_within
def m_is_row_of : MS := mRet (mAnd (mCB gIsi (mCons (mVar 0) (mCons (mC (.ty "tuple")) (mNil)))) (mCB gAll (mCons (mLc [3] (mItV (mVar 0)) (gmN 3) (mYes) (mCall 3 r_is_within (mCons (mVar 3) (mCons (mVar 1) (mCons (mVar 2) (mNil)))))) (mNil))))
def r_is_row_of : List D → Res RF := runF 4 m_is_row_of
def m_is_ascending : MS := mRet (mCB gAll (mCons (mLc [1, 2] (mItF zipOf (mCons (mVar 0) (mCons (mSl (mVar 0) (mC (.int 1))) (mNil)))) (gmT 2 (gmCons (gmN 1) (gmCons (gmN 2) (gmNil)))) (mYes) (mOp gLt (mVar 1) (mVar 2))) (mNil)))
def r_is_ascending : List D → Res RF := runF 3 m_is_ascending
def m_is_rising_row : MS := mRet (mAnd (mCall 3 r_is_row_of (mCons (mVar 0) (mCons (mC (.int 0)) (mCons (mVar 1) (mNil))))) (mCall 1 r_is_ascending (mCons (mVar 0) (mNil))))
def r_is_rising_row : List D → Res RF := runF 2 m_is_rising_row
def m_is_lot_in : MS := mRet (mCall 2 r_is_rising_row (mCons (mVar 1) (mCons (mOp gSub (mVar 0) (mC (.int 1))) (mNil))))
def r_is_lot_in : List D → Res RF := runF 2 m_is_lot_in
def m_is_family_in : MS := mSeq (mIfS (mOrT (mNotT (mTest (mCB gIsi (mCons (mVar 0) (mCons (mC (.ty "tuple")) (mNil)))))) (mOrT (mTestB (mOp gNe (mCB gLen (mCons (mVar 0) (mNil))) (mC (.int (2))))) (mNotT (mTest (mCall 3 r_is_within (mCons (mIx gIx (mVar 0) (mC (.int 0))) (mCons (mC (.int 1)) (mCons (mC (.int (10))) (mNil))))))))) (mRet (mC (.bl false))) (mNx)) (mSeq (mAsg (gmT 2 (gmCons (gmN 1) (gmCons (gmN 2) (gmNil)))) (mVar 0)) (mRet (mAnd (mCB gIsi (mCons (mVar 2) (mCons (mC (.ty "tuple")) (mNil)))) (mAnd (mCB gAll (mCons (mLc [3] (mItV (mVar 2)) (gmN 3) (mYes) (mCall 2 r_is_lot_in (mCons (mVar 1) (mCons (mVar 3) (mNil))))) (mNil))) (mCall 1 r_is_ascending (mCons (mVar 2) (mNil)))))))
def r_is_family_in : List D → Res RF := runF 4 m_is_family_in
def m_require_family : MS := mIfS (mNotT (mTest (mCall 1 r_is_family_in (mCons (mVar 0) (mNil))))) (mNever) (mNx)
def r_require_family : List D → Res RF := runF 1 m_require_family
def m_marks_of : MS := mSeq (mSet 1 (mC (.int 0))) (mSeq (mFor (mItV (mVar 0)) (gmN 2) (mAug 1 gBor (mOp gShl (mC (.int 1)) (mVar 2)))) (mRet (mVar 1)))
def r_marks_of : List D → Res RF := runF 3 m_marks_of
def m_marks_in : MS := mRet (mDc [1] (mItV (mIx gIx (mVar 0) (mC (.int 1)))) (gmN 1) (mYes) (mCall 1 r_marks_of (mCons (mVar 1) (mNil))) (mC (.bl true)))
def r_marks_in : List D → Res RF := runF 2 m_marks_in
def m_traced : MS := mRet (mDc [2] (mItV (mVar 0)) (gmN 2) (mYes) (mOp gBand (mVar 2) (mVar 1)) (mC (.bl true)))
def r_traced : List D → Res RF := runF 3 m_traced
def m_shown_in : MS := mRet (mOp gEq (mCB gLen (mCons (mCall 2 r_traced (mCons (mVar 1) (mCons (mVar 2) (mNil)))) (mNil))) (mOp gShl (mC (.int 1)) (mCall 1 r_size_of (mCons (mVar 2) (mNil)))))
def r_shown_in : List D → Res RF := runF 3 m_shown_in
def m_shown_parts_in : MS := mSeq (mSet 2 (mIf (mTestB (mOp gNe (mVar 1) (mC (.dct [])))) (mLst (mCons (mC (.int 0)) (mNil))) (mLst (mNil)))) (mSeq (mSet 3 (mC (.int 0))) (mSeq (mWhile 2000 (mTestB (mOp gLt (mVar 3) (mCB gLen (mCons (mVar 2) (mNil))))) (mSeq (mSet 4 (mIx gIx (mVar 2) (mVar 3))) (mSeq (mAug 3 gIadd (mC (.int 1))) (mFor (mItR rngOf1 (mCons (mVar 0) (mNil))) (gmN 5) (mIfS (mAndT (mTestB (mOp gGt (mOp gShl (mC (.int 1)) (mVar 5)) (mVar 4))) (mTest (mCall 3 r_shown_in (mCons (mVar 0) (mCons (mVar 1) (mCons (mOp gBor (mVar 4) (mOp gShl (mC (.int 1)) (mVar 5))) (mNil))))))) (mExpr (mMet 2 tyL gAppend (mCons (mOp gBor (mVar 4) (mOp gShl (mC (.int 1)) (mVar 5))) (mNil)))) (mNx)))))) (mRet (mVar 2))))
def r_shown_parts_in : List D → Res RF := runF 6 m_shown_parts_in
def m_dimension_in : MS := mRet (mCB gMax (mCons (mOp gAdd (mLc [2] (mItV (mCall 2 r_shown_parts_in (mCons (mVar 0) (mCons (mVar 1) (mNil))))) (gmN 2) (mYes) (mCall 1 r_size_of (mCons (mVar 2) (mNil)))) (mLst (mCons (mC (.int (-1))) (mNil)))) (mNil)))
def r_dimension_in : List D → Res RF := runF 3 m_dimension_in
def m_dimension : MS := mSeq (mExpr (mCall 1 r_require_family (mCons (mVar 0) (mNil)))) (mRet (mCall 2 r_dimension_in (mCons (mIx gIx (mVar 0) (mC (.int 0))) (mCons (mCall 1 r_marks_in (mCons (mVar 0) (mNil))) (mNil)))))
def r_dimension : List D → Res RF := runF 1 m_dimension
def m_require_size : MS := mExpr (mCall 3 r_require_number (mCons (mVar 0) (mCons (mC (.int (-1))) (mCons (mC (.int (10))) (mNil)))))
def r_require_size : List D → Res RF := runF 1 m_require_size
def m_require_family_and_size : MS := mSeq (mExpr (mCall 1 r_require_family (mCons (mVar 0) (mNil)))) (mExpr (mCall 1 r_require_size (mCons (mVar 1) (mNil))))
def r_require_family_and_size : List D → Res RF := runF 2 m_require_family_and_size
def m_choose : MS := mSeq (mSet 2 (mC (.int 1))) (mSeq (mFor (mItR rngOf1 (mCons (mVar 1) (mNil))) (gmN 3) (mSet 2 (mOp gFdiv (mOp gMul (mVar 2) (mOp gSub (mVar 0) (mVar 3))) (mOp gAdd (mVar 3) (mC (.int 1)))))) (mRet (mVar 2)))
def r_choose : List D → Res RF := runF 4 m_choose
def m_sauer_in : MS := mRet (mCB gSum (mCons (mLc [2] (mItR rngOf1 (mCons (mOp gAdd (mVar 1) (mC (.int 1))) (mNil))) (gmN 2) (mYes) (mCall 2 r_choose (mCons (mVar 0) (mCons (mVar 2) (mNil))))) (mNil)))
def r_sauer_in : List D → Res RF := runF 3 m_sauer_in
def m_is_small_in : MS := mRet (mOp gLe (mCall 2 r_dimension_in (mCons (mVar 0) (mCons (mVar 1) (mNil)))) (mVar 2))
def r_is_small_in : List D → Res RF := runF 3 m_is_small_in
def m_is_greatest_in : MS := mRet (mAnd (mOp gEq (mCB gLen (mCons (mVar 1) (mNil))) (mCall 2 r_sauer_in (mCons (mVar 0) (mCons (mVar 2) (mNil))))) (mCall 3 r_is_small_in (mCons (mVar 0) (mCons (mVar 1) (mCons (mVar 2) (mNil))))))
def r_is_greatest_in : List D → Res RF := runF 3 m_is_greatest_in
def m_is_greatest : MS := mSeq (mExpr (mCall 2 r_require_family_and_size (mCons (mVar 0) (mCons (mVar 1) (mNil))))) (mRet (mCall 3 r_is_greatest_in (mCons (mIx gIx (mVar 0) (mC (.int 0))) (mCons (mCall 1 r_marks_in (mCons (mVar 0) (mNil))) (mCons (mVar 1) (mNil))))))
def r_is_greatest : List D → Res RF := runF 2 m_is_greatest
def m_is_extremal_in : MS := mRet (mOp gEq (mCB gLen (mCons (mCall 2 r_shown_parts_in (mCons (mVar 0) (mCons (mVar 1) (mNil)))) (mNil))) (mCB gLen (mCons (mVar 1) (mNil))))
def r_is_extremal_in : List D → Res RF := runF 2 m_is_extremal_in
def m_is_extremal : MS := mSeq (mExpr (mCall 1 r_require_family (mCons (mVar 0) (mNil)))) (mRet (mCall 2 r_is_extremal_in (mCons (mIx gIx (mVar 0) (mC (.int 0))) (mCons (mCall 1 r_marks_in (mCons (mVar 0) (mNil))) (mNil)))))
def r_is_extremal : List D → Res RF := runF 1 m_is_extremal
def m_shown_parts : MS := mSeq (mExpr (mCall 1 r_require_family (mCons (mVar 0) (mNil)))) (mRet (mCB gTuple (mCons (mCB gSorted (mCons (mLc [1] (mItV (mCall 2 r_shown_parts_in (mCons (mIx gIx (mVar 0) (mC (.int 0))) (mCons (mCall 1 r_marks_in (mCons (mVar 0) (mNil))) (mNil))))) (gmN 1) (mYes) (mCall 1 r_lot_of (mCons (mVar 1) (mNil)))) (mNil))) (mNil))))
def r_shown_parts : List D → Res RF := runF 2 m_shown_parts
def m__law_shown_right : MS := mSeq (mSet 2 (mLst (mCons (mCall 1 r_dimension (mCons (mCall 1 r_thresholds (mCons (mVar 0) (mNil))) (mNil))) (mCons (mCall 1 r_dimension (mCons (mCall 1 r_stretches (mCons (mVar 0) (mNil))) (mNil))) (mCons (mCall 1 r_dimension (mCons (mCall 2 r_up_to_changes (mCons (mVar 0) (mCons (mVar 1) (mNil)))) (mNil))) (mCons (mCall 1 r_dimension (mCons (mCall 2 r_at_most (mCons (mVar 0) (mCons (mVar 1) (mNil)))) (mNil))) (mNil))))))) (mSeq (mIfS (mTestB (mOp gNe (mVar 2) (mLst (mCons (mC (.int 1)) (mCons (mCB gMin (mCons (mVar 0) (mCons (mC (.int 2)) (mNil)))) (mCons (mCB gMin (mCons (mVar 0) (mCons (mOp gAdd (mVar 1) (mC (.int 1))) (mNil)))) (mCons (mVar 1) (mNil)))))))) (mRet (mC (.bl false))) (mNx)) (mSeq (mSet 2 (mLst (mCons (mCall 2 r_is_greatest (mCons (mCall 1 r_thresholds (mCons (mVar 0) (mNil))) (mCons (mC (.int 1)) (mNil)))) (mCons (mCall 2 r_is_greatest (mCons (mCall 1 r_stretches (mCons (mVar 0) (mNil))) (mCons (mC (.int 2)) (mNil)))) (mCons (mCall 2 r_is_greatest (mCons (mCall 2 r_at_most (mCons (mVar 0) (mCons (mVar 1) (mNil)))) (mCons (mVar 1) (mNil)))) (mNil)))))) (mSeq (mSet 2 (mOp gAdd (mVar 2) (mLst (mCons (mCall 1 r_is_extremal (mCons (mCall 1 r_thresholds (mCons (mVar 0) (mNil))) (mNil))) (mCons (mCall 1 r_is_extremal (mCons (mCall 1 r_stretches (mCons (mVar 0) (mNil))) (mNil))) (mCons (mCall 1 r_is_extremal (mCons (mCall 2 r_at_most (mCons (mVar 0) (mCons (mVar 1) (mNil)))) (mNil))) (mNil))))))) (mSeq (mIfS (mTestB (mOp gNe (mVar 2) (mOp gMul (mLst (mCons (mC (.bl true)) (mNil))) (mC (.int 6))))) (mRet (mC (.bl false))) (mNx)) (mSeq (mSet 3 (mCB gMin (mCons (mVar 1) (mCons (mOp gSub (mVar 0) (mVar 1)) (mNil))))) (mRet (mOp gEq (mCall 1 r_shown_parts (mCons (mCall 2 r_just (mCons (mVar 0) (mCons (mVar 1) (mNil)))) (mNil))) (mCB gTuple (mCons (mLc [4] (mItV (mCall 1 r__law_all_lots (mCons (mVar 0) (mNil)))) (gmN 4) (mTestB (mOp gLe (mCB gLen (mCons (mVar 4) (mNil))) (mVar 3))) (mVar 4)) (mNil))))))))))
def r__law_shown_right : List D → Res RF := runF 5 m__law_shown_right
def m_law : MS := mSeq (mFor (mItR rngOf1 (mCons (mCB gMax (mCons (mC (.int 1)) (mCons (mCB gMin (mCons (mC (.int 3)) (mCons (mCB gLen (mCons (mVar 0) (mNil))) (mNil)))) (mNil)))) (mNil))) (gmN 1) (mSeq (mSet 2 (mCall 2 r__law_dice (mCons (mVar 0) (mCons (mVar 1) (mNil))))) (mSeq (mSet 3 (mOp gAdd (mC (.int 1)) (mCallI 2 r__law_roll (mCons (mVar 2) (mCons (mC (.int 8)) (mNil)))))) (mSeq (mIfS (mNotT (mTest (mCall 2 r__law_lots_right (mCons (mVar 3) (mCons (mCallI 2 r__law_roll (mCons (mVar 2) (mCons (mOp gAdd (mVar 3) (mC (.int 1))) (mNil)))) (mNil)))))) (mRet (mC (.bl false))) (mNx)) (mSeq (mSet 3 (mOp gAdd (mC (.int 1)) (mCallI 2 r__law_roll (mCons (mVar 2) (mCons (mC (.int 6)) (mNil)))))) (mIfS (mNotT (mTest (mCall 2 r__law_shown_right (mCons (mVar 3) (mCons (mCallI 2 r__law_roll (mCons (mVar 2) (mCons (mOp gAdd (mVar 3) (mC (.int 1))) (mNil)))) (mNil)))))) (mRet (mC (.bl false))) (mNx))))))) (mSeq (mSet 4 (mTup (mCons (mC (.int 2)) (mCons (mTup (mCons (mTup (mNil)) (mCons (mTup (mCons (mC (.int 0)) (mNil))) (mCons (mTup (mCons (mC (.int 0)) (mCons (mC (.int 1)) (mNil)))) (mCons (mTup (mCons (mC (.int 1)) (mNil))) (mNil)))))) (mNil))))) (mSeq (mSet 5 (mLst (mCons (mCall 1 r_thresholds (mCons (mC (.int 2)) (mNil))) (mCons (mCall 1 r_stretches (mCons (mC (.int 2)) (mNil))) (mCons (mCall 2 r_up_to_changes (mCons (mC (.int 3)) (mCons (mC (.int 0)) (mNil)))) (mCons (mCall 2 r_up_to_changes (mCons (mC (.int 2)) (mCons (mC (.int 1)) (mNil)))) (mCons (mCall 2 r_at_most (mCons (mC (.int 2)) (mCons (mC (.int 1)) (mNil)))) (mCons (mCall 2 r_just (mCons (mC (.int 3)) (mCons (mC (.int 2)) (mNil)))) (mNil))))))))) (mSeq (mSet 5 (mOp gAdd (mVar 5) (mLst (mCons (mCall 1 r_thresholds (mCons (mC (.int 1)) (mNil))) (mCons (mCall 1 r_stretches (mCons (mC (.int 1)) (mNil))) (mCons (mCall 2 r_up_to_changes (mCons (mC (.int 1)) (mCons (mC (.int 1)) (mNil)))) (mCons (mCall 2 r_just (mCons (mC (.int 2)) (mCons (mC (.int 0)) (mNil)))) (mCons (mCall 2 r_at_most (mCons (mC (.int 3)) (mCons (mC (.int 0)) (mNil)))) (mCons (mCB gLen (mCons (mIx gIx (mCall 2 r_at_most (mCons (mC (.int 10)) (mCons (mC (.int 5)) (mNil)))) (mC (.int 1))) (mNil))) (mNil)))))))))) (mSeq (mSet 6 (mLst (mCons (mTup (mCons (mC (.int 2)) (mCons (mTup (mCons (mTup (mNil)) (mCons (mTup (mCons (mC (.int 0)) (mNil))) (mCons (mTup (mCons (mC (.int 0)) (mCons (mC (.int 1)) (mNil)))) (mNil))))) (mNil)))) (mCons (mVar 4) (mCons (mTup (mCons (mC (.int 3)) (mCons (mTup (mCons (mTup (mNil)) (mCons (mTup (mCons (mC (.int 0)) (mCons (mC (.int 1)) (mCons (mC (.int 2)) (mNil))))) (mNil)))) (mNil)))) (mCons (mVar 4) (mCons (mTup (mCons (mC (.int 2)) (mCons (mTup (mCons (mTup (mNil)) (mCons (mTup (mCons (mC (.int 0)) (mNil))) (mCons (mTup (mCons (mC (.int 1)) (mNil))) (mNil))))) (mNil)))) (mNil)))))))) (mSeq (mSet 6 (mOp gAdd (mOp gAdd (mOp gAdd (mVar 6) (mLst (mCons (mTup (mCons (mC (.int 3)) (mCons (mTup (mCons (mTup (mCons (mC (.int 0)) (mCons (mC (.int 1)) (mNil)))) (mCons (mTup (mCons (mC (.int 0)) (mCons (mC (.int 2)) (mNil)))) (mCons (mTup (mCons (mC (.int 1)) (mCons (mC (.int 2)) (mNil)))) (mNil))))) (mNil)))) (mNil)))) (mOp gMul (mLst (mCons (mTup (mCons (mC (.int 1)) (mCons (mTup (mCons (mTup (mNil)) (mCons (mTup (mCons (mC (.int 0)) (mNil))) (mNil)))) (mNil)))) (mNil))) (mC (.int 3)))) (mLst (mCons (mTup (mCons (mC (.int 2)) (mCons (mTup (mCons (mTup (mNil)) (mNil))) (mNil)))) (mCons (mTup (mCons (mC (.int 3)) (mCons (mTup (mCons (mTup (mNil)) (mNil))) (mNil)))) (mCons (mC (.int 638)) (mNil))))))) (mRet (mOp gEq (mVar 5) (mVar 6))))))))
def r_law : List D → Res RF := runF 7 m_law
/-! ### the walk -/
section
variable {w : World} {K : PySem.W.Frag} {mg : Str → Option Value} {base : Heap}
abbrev PP : Program := PySem.Challenge.pw_shatterlots_k84_whole_lines_and_sizes
theorem sc__law_dice : FnScope N__law_dice ["script", "spot"] (defScope s__law_dice) := ⟨rfl, rfl, rfl, by decide +kernel, rfl, by decide +kernel, by decide +kernel⟩
set_option maxHeartbeats 0 in
theorem ok__law_dice (T : Facts K mg) : FnG PP w K mg base 1 T.f__law_dice T.d__law_dice ["script", "spot"] (spF K mg 2 r__law_dice) := by
  refine fn_ok (N := N__law_dice) (k := 0) T.F__law_dice sc__law_dice rfl (body := m__law_dice) fun cdv A outer s H E hr gd => ?_
  have hu := hr.units
  have hu0 := hr.units0
  have hur := room80 hr
  have nd := sc__law_dice.nd
  exact (db_cons (ds_set (i := 2) nd rfl (by first | exact .inl rfl | exact .inr rfl) (de_if (dt_cmp (opG_lt hu0) (opd_rG _) (de_var 1) (de_callB callG_len (calld_rC _) (by rfl) T.z_len (by rfl) (da_cons (de_var 0) da_nil)) (nomark _)) (de_callTy callG_int (calld_rC _) (by rfl) T.z_int (by rfl) (da_cons (de_ixG (de_var 0) (de_var 1)) da_nil)) (de_op opG_add (opd_rG _) (de_op opG_mul (opd_rG _) de_int (de_var 1)) de_int)))
      (db_cons (ds_set (i := 3) nd rfl (by first | exact .inl rfl | exact .inr rfl) (de_op opG_mod (opd_rG _) (de_callB (callG_max rfl) (calld_rC _) (by rfl) T.z_max (by rfl) (da_cons de_int (da_cons (de_op opG_sub (opd_rG _) (de_callB callG_abs (calld_rC _) (by rfl) T.z_abs (by rfl) (da_cons (de_var 2) da_nil)) (de_op opG_pow (opd_rG _) de_int de_int)) da_nil))) (de_op opG_mul (opd_rG _) (de_op opG_pow (opd_rG _) de_int de_int) (de_op opG_pow (opd_rG _) de_int de_int))))
      (db_one (ds_ret (de_lst (da_cons (de_var 3) (da_cons (de_op opG_add (opd_rG _) (de_op opG_add (opd_rG _) (de_op opG_add (opd_rG _) (de_op opG_mul (opd_rG _) (de_op opG_mod (opd_rG _) (de_callB callG_abs (calld_rC _) (by rfl) T.z_abs (by rfl) (da_cons (de_var 2) da_nil)) de_int) de_int) (de_op opG_mul (opd_rG _) de_int (de_var 1))) (de_op opG_mul (opd_rG _) de_int (de_callTy callG_int (calld_rC _) (by rfl) T.z_int (by rfl) (da_cons (de_cmp (opG_lt hu0) (opd_rG _) (de_var 2) de_int (nomark _)) da_nil)))) de_int) (da_cons de_int da_nil))))))))
theorem sc__law_roll : FnScope N__law_roll ["dice", "total"] (defScope s__law_roll) := ⟨rfl, rfl, rfl, by decide +kernel, rfl, by decide +kernel, by decide +kernel⟩
set_option maxHeartbeats 0 in
theorem ok__law_roll (T : Facts K mg) : FnG PP w K mg base 1 T.f__law_roll T.d__law_roll ["dice", "total"] (spI K mg 2 r__law_roll) := by
  refine fnI_ok (N := N__law_roll) (k := 0) T.F__law_roll sc__law_roll rfl (by decide) (by decide) (body := m__law_roll) fun cdv A outer s H E hr gd => ?_
  have hu := hr.units
  have hu0 := hr.units0
  have hur := room80 hr
  have nd := sc__law_roll.nd
  exact (db_cons (ds_if (dt_cmp (opG_gt) (opd_rG _) (de_ixG (de_var 0) de_int) de_int (nomark _)) (db_cons (ds_set (i := 2) nd rfl (by first | exact .inl rfl | exact .inr rfl) (de_op opG_mod (opd_rG _) (de_callTy callG_int (calld_rC _) (by rfl) T.z_int (by rfl) (da_cons (de_ixG (de_var 0) de_int) da_nil)) (de_var 1)))
      (db_cons (ds_put (de_op opG_fdiv (opd_rG _) (de_ixG (de_var 0) de_int) (de_var 1)) de_int (pv 0))
      (db_one (ds_ret (de_var 2))))) db_nil)
      (db_cons (ds_put (de_op opG_add (opd_rG _) (de_ixG (de_var 0) de_int) de_int) de_int (pv 0))
      (db_cons (ds_set (i := 3) nd rfl (by first | exact .inl rfl | exact .inr rfl) (de_op opG_mod (opd_rG _) (de_callTy callG_int (calld_rC _) (by rfl) T.z_int (by rfl) (da_cons (de_op opG_add (opd_rG _) (de_ixG (de_var 0) de_int) (de_op opG_mul (opd_rG _) de_int (de_ixG (de_var 0) de_int))) da_nil)) de_int))
      (db_cons (ds_set (i := 4) nd rfl (by first | exact .inl rfl | exact .inr rfl) (de_op opG_add (opd_rG _) (de_op opG_mul (opd_rG _) (de_op opG_mod (opd_rG _) (de_callTy callG_int (calld_rC _) (by rfl) T.z_int (by rfl) (da_cons (de_op opG_add (opd_rG _) (de_op opG_mul (opd_rG _) (de_var 3) (de_var 3)) (de_op opG_mul (opd_rG _) de_int (de_ixG (de_var 0) de_int))) da_nil)) de_int) de_int) (de_var 3)))
      (db_one (ds_ret (de_op opG_mod (opd_rG _) (de_callTy callG_int (calld_rC _) (by rfl) T.z_int (by rfl) (da_cons (de_op opG_fdiv (opd_rG _) (de_var 4) de_int) da_nil)) (de_var 1))))))))
theorem sc__law_parts : FnScope N__law_parts ["lot"] (defScope s__law_parts) := ⟨rfl, rfl, rfl, by decide +kernel, rfl, by decide +kernel, by decide +kernel⟩
set_option maxHeartbeats 0 in
theorem ok__law_parts (T : Facts K mg) : FnG PP w K mg base 1 T.f__law_parts T.d__law_parts ["lot"] (spF K mg 1 r__law_parts) := by
  refine fn_ok (N := N__law_parts) (k := 0) T.F__law_parts sc__law_parts rfl (body := m__law_parts) fun cdv A outer s H E hr gd => ?_
  have hu := hr.units
  have hu0 := hr.units0
  have hur := room80 hr
  have nd := sc__law_parts.nd
  exact (db_cons (ds_set (i := 1) nd rfl (by first | exact .inl rfl | exact .inr rfl) (de_lst (da_cons (de_tup da_nil) da_nil)))
      (db_cons (ds_for (passes_of rfl) rfl (di_v (de_var 0)) (dg_n (i := 2) nd rfl (by first | exact .inl rfl | exact .inr rfl)) (db_one (ds_set (i := 1) nd rfl (by first | exact .inl rfl | exact .inr rfl) (de_op opG_add (opd_rG _) (de_var 1) (de_lc (own := [("part", 3)]) rfl nd (di_v (de_var 1)) (blkOk_by (N := N__law_parts) (sc := defScope s__law_parts) (by decide +kernel)) (fun _ _ _ _ _ => (dg_n (i := 3) nd rfl (by first | exact .inl rfl | exact .inr rfl))) (by decide) (fun _ _ _ _ _ => dpt_nil) (fun _ _ _ _ _ => (de_op opG_add (opd_rG _) (de_var 3) (de_tup (da_cons (de_var 2) da_nil)))))))))
      (db_one (ds_ret (de_callB (callG_sorted rfl hu) (calld_rC _) (by rfl) T.z_sorted (by rfl) (da_cons (de_var 1) da_nil))))))
theorem sc__law_all_lots : FnScope N__law_all_lots ["n"] (defScope s__law_all_lots) := ⟨rfl, rfl, rfl, by decide +kernel, rfl, by decide +kernel, by decide +kernel⟩
set_option maxHeartbeats 0 in
theorem ok__law_all_lots (T : Facts K mg) : FnG PP w K mg base 2 T.f__law_all_lots T.d__law_all_lots ["n"] (spF K mg 1 r__law_all_lots) := by
  have G__law_parts := ok__law_parts (w := w) (base := base) T
  refine fn_ok (N := N__law_all_lots) (k := 1) T.F__law_all_lots sc__law_all_lots rfl (body := m__law_all_lots) fun cdv A outer s H E hr gd => ?_
  have hu := hr.units
  have hu0 := hr.units0
  have hur := room80 hr
  have nd := sc__law_all_lots.nd
  exact (db_one (ds_ret (de_call (takes_of rfl rfl rfl rfl) G__law_parts (hr.mono (by decide)) gd (by rfl) T.g__law_parts T.F__law_parts.kp T.b__law_parts (da_cons (de_tupR1 rfl (by rfl) T.z_tuple (by rfl) T.z_range (de_var 0)) da_nil))))
theorem sc__law_md_changes : FnScope N__law_md_changes ["n", "lot"] (defScope s__law_md_changes) := ⟨rfl, rfl, rfl, by decide +kernel, rfl, by decide +kernel, by decide +kernel⟩
set_option maxHeartbeats 0 in
theorem ok__law_md_changes (T : Facts K mg) : FnG PP w K mg base 1 T.f__law_md_changes T.d__law_md_changes ["n", "lot"] (spF K mg 2 r__law_md_changes) := by
  refine fn_ok (N := N__law_md_changes) (k := 0) T.F__law_md_changes sc__law_md_changes rfl (body := m__law_md_changes) fun cdv A outer s H E hr gd => ?_
  have hu := hr.units
  have hu0 := hr.units0
  have hur := room80 hr
  have nd := sc__law_md_changes.nd
  exact (db_one (ds_ret (de_callB callG_len (calld_rC _) (by rfl) T.z_len (by rfl) (da_cons (de_lc (own := [("x", 2)]) rfl nd (di_r2 (by rfl) T.z_range (da_cons de_int (da_cons (de_var 0) da_nil))) (blkOk_by (N := N__law_md_changes) (sc := defScope s__law_md_changes) (by decide +kernel)) (fun _ _ _ _ _ => (dg_n (i := 2) nd rfl (by first | exact .inl rfl | exact .inr rfl))) (by decide) (fun _ _ _ _ _ => (dpt_one (dt_cmp ((opG_ne hu)) (opd_rG _) (de_cmp (opG_in) (opd_rG _) (de_var 2) (de_var 1) (by rfl)) (de_cmp (opG_in) (opd_rG _) (de_op opG_sub (opd_rG _) (de_var 2) de_int) (de_var 1) (by rfl)) (nomark _)))) (fun _ _ _ _ _ => de_int)) da_nil))))
theorem sc_is_whole : FnScope N_is_whole ["value"] (defScope s_is_whole) := ⟨rfl, rfl, rfl, by decide +kernel, rfl, by decide +kernel, by decide +kernel⟩
set_option maxHeartbeats 0 in
theorem ok_is_whole (T : Facts K mg) : FnG PP w K mg base 1 T.f_is_whole T.d_is_whole ["value"] (spF K mg 1 r_is_whole) := by
  refine fn_ok (N := N_is_whole) (k := 0) T.F_is_whole sc_is_whole rfl (body := m_is_whole) fun cdv A outer s H E hr gd => ?_
  have hu := hr.units
  have hu0 := hr.units0
  have hur := room80 hr
  have nd := sc_is_whole.nd
  exact (db_one (ds_ret (de_and (de_callB callG_isi (calld_rC _) (by rfl) T.z_isinstance (by rfl) (da_cons (de_var 0) (da_cons (de_ty (by rfl) T.z_int (by rfl)) da_nil))) (de_one (de_not (de_callB callG_isi (calld_rC _) (by rfl) T.z_isinstance (by rfl) (da_cons (de_var 0) (da_cons (de_ty (by rfl) T.z_bool (by rfl)) da_nil))))))))
theorem sc_is_near : FnScope N_is_near ["value"] (defScope s_is_near) := ⟨rfl, rfl, rfl, by decide +kernel, rfl, by decide +kernel, by decide +kernel⟩
set_option maxHeartbeats 0 in
theorem ok_is_near (T : Facts K mg) : FnG PP w K mg base 2 T.f_is_near T.d_is_near ["value"] (spF K mg 1 r_is_near) := by
  have G_is_whole := ok_is_whole (w := w) (base := base) T
  refine fn_ok (N := N_is_near) (k := 1) T.F_is_near sc_is_near rfl (body := m_is_near) fun cdv A outer s H E hr gd => ?_
  have hu := hr.units
  have hu0 := hr.units0
  have hur := room80 hr
  have nd := sc_is_near.nd
  exact (db_one (ds_ret (de_and (de_call (takes_of rfl rfl rfl rfl) G_is_whole (hr.mono (by decide)) gd (by rfl) T.g_is_whole T.F_is_whole.kp T.b_is_whole (da_cons (de_var 0) da_nil)) (de_one (de_chain (opG_lt hu0) (opG_lt hu0) (opd_rG _) (opd_rG _) (de_un unG_neg (und_rU1 _) (de_gi (by rfl) T.c_FAR)) (de_var 0) (de_gi (by rfl) T.c_FAR))))))
theorem sc_require_number : FnScope N_require_number ["value", "least", "most"] (defScope s_require_number) := ⟨rfl, rfl, rfl, by decide +kernel, rfl, by decide +kernel, by decide +kernel⟩
set_option maxHeartbeats 0 in
theorem ok_require_number (T : Facts K mg) : FnG PP w K mg base 3 T.f_require_number T.d_require_number ["value", "least", "most"] (spF K mg 3 r_require_number) := by
  have G_is_near := ok_is_near (w := w) (base := base) T
  refine fn_ok (N := N_require_number) (k := 2) T.F_require_number sc_require_number rfl (body := m_require_number) fun cdv A outer s H E hr gd => ?_
  have hu := hr.units
  have hu0 := hr.units0
  have hur := room80 hr
  have nd := sc_require_number.nd
  exact (db_one (ds_if (dt_w (dw_or (dt_not (dt_truth (de_call (takes_of rfl rfl rfl rfl) G_is_near (hr.mono (by decide)) gd (by rfl) T.g_is_near T.F_is_near.kp T.b_is_near (da_cons (de_var 0) da_nil)))) (dw_or (dt_w (dw_and (dt_cmp (opG_isNot) (opd_rG _) (de_var 1) de_non (nomark _)) (dw_and1 (dt_cmp (opG_lt hu0) (opd_rG _) (de_var 0) (de_var 1) (nomark _))))) (dw_or1 (dt_w (dw_and (dt_cmp (opG_isNot) (opd_rG _) (de_var 2) de_non (nomark _)) (dw_and1 (dt_cmp (opG_gt) (opd_rG _) (de_var 0) (de_var 2) (nomark _))))))))) (db_one ds_never) db_nil))
theorem sc_require_things : FnScope N_require_things ["n"] (defScope s_require_things) := ⟨rfl, rfl, rfl, by decide +kernel, rfl, by decide +kernel, by decide +kernel⟩
set_option maxHeartbeats 0 in
theorem ok_require_things (T : Facts K mg) : FnG PP w K mg base 4 T.f_require_things T.d_require_things ["n"] (spF K mg 1 r_require_things) := by
  have G_require_number := ok_require_number (w := w) (base := base) T
  refine fn_ok (N := N_require_things) (k := 3) T.F_require_things sc_require_things rfl (body := m_require_things) fun cdv A outer s H E hr gd => ?_
  have hu := hr.units
  have hu0 := hr.units0
  have hur := room80 hr
  have nd := sc_require_things.nd
  exact (db_one (ds_expr (de_call (takes_of rfl rfl rfl rfl) G_require_number (hr.mono (by decide)) gd (by rfl) T.g_require_number T.F_require_number.kp T.b_require_number (da_cons (de_var 0) (da_cons de_int (da_cons (de_gi (by rfl) T.c_MOST_THINGS) da_nil))))))
theorem sc_lot_of : FnScope N_lot_of ["marks"] (defScope s_lot_of) := ⟨rfl, rfl, rfl, by decide +kernel, rfl, by decide +kernel, by decide +kernel⟩
set_option maxHeartbeats 0 in
theorem ok_lot_of (T : Facts K mg) : FnG PP w K mg base 1 T.f_lot_of T.d_lot_of ["marks"] (spF K mg 1 r_lot_of) := by
  refine fn_ok (N := N_lot_of) (k := 0) T.F_lot_of sc_lot_of rfl (body := m_lot_of) fun cdv A outer s H E hr gd => ?_
  have hu := hr.units
  have hu0 := hr.units0
  have hur := room80 hr
  have nd := sc_lot_of.nd
  exact (db_one (ds_ret (de_callTy callG_tuple (calld_rC _) (by rfl) T.z_tuple (by rfl) (da_cons (de_lc (own := [("x", 1)]) rfl nd (di_r1 (by rfl) T.z_range (da_cons (de_bits (de_var 0)) da_nil)) (blkOk_by (N := N_lot_of) (sc := defScope s_lot_of) (by decide +kernel)) (fun _ _ _ _ _ => (dg_n (i := 1) nd rfl (by first | exact .inl rfl | exact .inr rfl))) (by decide) (fun _ _ _ _ _ => (dpt_one (dt_cmp ((opG_eq hu)) (opd_rG _) (de_op opG_band (opd_rG _) (de_op opG_shr (opd_rG _) (de_var 0) (de_var 1)) de_int) de_int (nomark _)))) (fun _ _ _ _ _ => (de_var 1))) da_nil))))
theorem sc_family_by : FnScope N_family_by ["n", "marks"] (defScope s_family_by) := ⟨rfl, rfl, rfl, by decide +kernel, rfl, by decide +kernel, by decide +kernel⟩
set_option maxHeartbeats 0 in
theorem ok_family_by (T : Facts K mg) : FnG PP w K mg base 2 T.f_family_by T.d_family_by ["n", "marks"] (spF K mg 2 r_family_by) := by
  have G_lot_of := ok_lot_of (w := w) (base := base) T
  refine fn_ok (N := N_family_by) (k := 1) T.F_family_by sc_family_by rfl (body := m_family_by) fun cdv A outer s H E hr gd => ?_
  have hu := hr.units
  have hu0 := hr.units0
  have hur := room80 hr
  have nd := sc_family_by.nd
  exact (db_one (ds_ret (de_tup (da_cons (de_var 0) (da_cons (de_callTy callG_tuple (calld_rC _) (by rfl) T.z_tuple (by rfl) (da_cons (de_callB (callG_sorted rfl hu) (calld_rC _) (by rfl) T.z_sorted (by rfl) (da_cons (de_dc (own := [("one", 2)]) rfl hu0 nd (di_v (de_var 1)) (blkOk_by (N := N_family_by) (sc := defScope s_family_by) (by decide +kernel)) (fun _ _ _ _ _ => (dg_n (i := 2) nd rfl (by first | exact .inl rfl | exact .inr rfl))) (by decide) (fun _ _ _ _ _ => dpt_nil) (fun _ _ _ _ _ => (de_call takes0 G_lot_of (hr.mono (by decide)) gd (by rfl) T.g_lot_of T.F_lot_of.kp T.b_lot_of (da_cons (de_var 2) da_nil))) (fun _ _ _ _ _ => de_bl)) da_nil)) da_nil)) da_nil)))))
theorem sc_thresholds : FnScope N_thresholds ["n"] (defScope s_thresholds) := ⟨rfl, rfl, rfl, by decide +kernel, rfl, by decide +kernel, by decide +kernel⟩
set_option maxHeartbeats 0 in
theorem ok_thresholds (T : Facts K mg) : FnG PP w K mg base 5 T.f_thresholds T.d_thresholds ["n"] (spF K mg 1 r_thresholds) := by
  have G_require_things := ok_require_things (w := w) (base := base) T
  have G_family_by := ok_family_by (w := w) (base := base) T
  refine fn_ok (N := N_thresholds) (k := 4) T.F_thresholds sc_thresholds rfl (body := m_thresholds) fun cdv A outer s H E hr gd => ?_
  have hu := hr.units
  have hu0 := hr.units0
  have hur := room80 hr
  have nd := sc_thresholds.nd
  exact (db_cons (ds_expr (de_call (takes_of rfl rfl rfl rfl) G_require_things (hr.mono (by decide)) gd (by rfl) T.g_require_things T.F_require_things.kp T.b_require_things (da_cons (de_var 0) da_nil)))
      (db_one (ds_ret (de_call (takes_of rfl rfl rfl rfl) G_family_by (hr.mono (by decide)) gd (by rfl) T.g_family_by T.F_family_by.kp T.b_family_by (da_cons (de_var 0) (da_cons (de_lc (own := [("i", 1)]) rfl nd (di_r1 (by rfl) T.z_range (da_cons (de_op opG_add (opd_rG _) (de_var 0) de_int) da_nil)) (blkOk_by (N := N_thresholds) (sc := defScope s_thresholds) (by decide +kernel)) (fun _ _ _ _ _ => (dg_n (i := 1) nd rfl (by first | exact .inl rfl | exact .inr rfl))) (by decide) (fun _ _ _ _ _ => dpt_nil) (fun _ _ _ _ _ => (de_op opG_sub (opd_rG _) (de_op opG_shl (opd_rG _) de_int (de_var 1)) de_int))) da_nil))))))
theorem sc_stretches_of : FnScope N_stretches_of ["n"] (defScope s_stretches_of) := ⟨rfl, rfl, rfl, by decide +kernel, rfl, by decide +kernel, by decide +kernel⟩
set_option maxHeartbeats 0 in
theorem ok_stretches_of (T : Facts K mg) : FnG PP w K mg base 1 T.f_stretches_of T.d_stretches_of ["n"] (spF K mg 1 r_stretches_of) := by
  refine fn_ok (N := N_stretches_of) (k := 0) T.F_stretches_of sc_stretches_of rfl (body := m_stretches_of) fun cdv A outer s H E hr gd => ?_
  have hu := hr.units
  have hu0 := hr.units0
  have hur := room80 hr
  have nd := sc_stretches_of.nd
  exact (db_cons (ds_set (i := 1) nd rfl (by first | exact .inl rfl | exact .inr rfl) (de_lst (da_cons de_int da_nil)))
      (db_cons (ds_for (passes_of rfl) rfl (di_r1 (by rfl) T.z_range (da_cons (de_var 0) da_nil)) (dg_n (i := 2) nd rfl (by first | exact .inl rfl | exact .inr rfl)) (db_one (ds_expr (de_meth PySem.F.plainAttrs_list PySem.F.slot_list_extend PySem.F.type_list_extend mt_extend met_extend (pv 1) (da_cons (de_lc (own := [("last", 3)]) rfl nd (di_r2 (by rfl) T.z_range (da_cons (de_op opG_add (opd_rG _) (de_var 2) de_int) (da_cons (de_op opG_add (opd_rG _) (de_var 0) de_int) da_nil))) (blkOk_by (N := N_stretches_of) (sc := defScope s_stretches_of) (by decide +kernel)) (fun _ _ _ _ _ => (dg_n (i := 3) nd rfl (by first | exact .inl rfl | exact .inr rfl))) (by decide) (fun _ _ _ _ _ => dpt_nil) (fun _ _ _ _ _ => (de_op opG_sub (opd_rG _) (de_op opG_shl (opd_rG _) de_int (de_var 3)) (de_op opG_shl (opd_rG _) de_int (de_var 2))))) da_nil)))))
      (db_one (ds_ret (de_var 1)))))
theorem sc_stretches : FnScope N_stretches ["n"] (defScope s_stretches) := ⟨rfl, rfl, rfl, by decide +kernel, rfl, by decide +kernel, by decide +kernel⟩
set_option maxHeartbeats 0 in
theorem ok_stretches (T : Facts K mg) : FnG PP w K mg base 5 T.f_stretches T.d_stretches ["n"] (spF K mg 1 r_stretches) := by
  have G_require_things := ok_require_things (w := w) (base := base) T
  have G_stretches_of := ok_stretches_of (w := w) (base := base) T
  have G_family_by := ok_family_by (w := w) (base := base) T
  refine fn_ok (N := N_stretches) (k := 4) T.F_stretches sc_stretches rfl (body := m_stretches) fun cdv A outer s H E hr gd => ?_
  have hu := hr.units
  have hu0 := hr.units0
  have hur := room80 hr
  have nd := sc_stretches.nd
  exact (db_cons (ds_expr (de_call (takes_of rfl rfl rfl rfl) G_require_things (hr.mono (by decide)) gd (by rfl) T.g_require_things T.F_require_things.kp T.b_require_things (da_cons (de_var 0) da_nil)))
      (db_one (ds_ret (de_call (takes_of rfl rfl rfl rfl) G_family_by (hr.mono (by decide)) gd (by rfl) T.g_family_by T.F_family_by.kp T.b_family_by (da_cons (de_var 0) (da_cons (de_call (takes_of rfl rfl rfl rfl) G_stretches_of (hr.mono (by decide)) gd (by rfl) T.g_stretches_of T.F_stretches_of.kp T.b_stretches_of (da_cons (de_var 0) da_nil)) da_nil))))))
theorem sc_require_things_and_size : FnScope N_require_things_and_size ["n", "k"] (defScope s_require_things_and_size) := ⟨rfl, rfl, rfl, by decide +kernel, rfl, by decide +kernel, by decide +kernel⟩
set_option maxHeartbeats 0 in
theorem ok_require_things_and_size (T : Facts K mg) : FnG PP w K mg base 5 T.f_require_things_and_size T.d_require_things_and_size ["n", "k"] (spF K mg 2 r_require_things_and_size) := by
  have G_require_things := ok_require_things (w := w) (base := base) T
  have G_require_number := ok_require_number (w := w) (base := base) T
  refine fn_ok (N := N_require_things_and_size) (k := 4) T.F_require_things_and_size sc_require_things_and_size rfl (body := m_require_things_and_size) fun cdv A outer s H E hr gd => ?_
  have hu := hr.units
  have hu0 := hr.units0
  have hur := room80 hr
  have nd := sc_require_things_and_size.nd
  exact (db_cons (ds_expr (de_call (takes_of rfl rfl rfl rfl) G_require_things (hr.mono (by decide)) gd (by rfl) T.g_require_things T.F_require_things.kp T.b_require_things (da_cons (de_var 0) da_nil)))
      (db_one (ds_expr (de_call (takes_of rfl rfl rfl rfl) G_require_number (hr.mono (by decide)) gd (by rfl) T.g_require_number T.F_require_number.kp T.b_require_number (da_cons (de_var 1) (da_cons de_int (da_cons (de_var 0) da_nil)))))))
theorem sc_changes_of : FnScope N_changes_of ["n", "one"] (defScope s_changes_of) := ⟨rfl, rfl, rfl, by decide +kernel, rfl, by decide +kernel, by decide +kernel⟩
set_option maxHeartbeats 0 in
theorem ok_changes_of (T : Facts K mg) : FnG PP w K mg base 1 T.f_changes_of T.d_changes_of ["n", "one"] (spF K mg 2 r_changes_of) := by
  refine fn_ok (N := N_changes_of) (k := 0) T.F_changes_of sc_changes_of rfl (body := m_changes_of) fun cdv A outer s H E hr gd => ?_
  have hu := hr.units
  have hu0 := hr.units0
  have hur := room80 hr
  have nd := sc_changes_of.nd
  exact (db_cons (ds_setLc (i := 2) (own := [("x", 3)]) rfl nd rfl rfl (sw_true rfl rfl rfl (by decide +kernel)) (di_r1 (by rfl) T.z_range (da_cons (de_var 0) da_nil)) (blkOk_by (N := N_changes_of) (sc := defScope s_changes_of) (by decide +kernel)) (fun _ _ _ _ _ => (dg_n (i := 3) nd rfl (by first | exact .inl rfl | exact .inr rfl))) (by decide) (fun _ _ _ _ _ => dpt_nil) (fun _ _ _ _ _ => (de_op opG_band (opd_rG _) (de_op opG_shr (opd_rG _) (de_var 1) (de_var 3)) de_int)))
      (db_one (ds_ret (de_callB callG_len (calld_rC _) (by rfl) T.z_len (by rfl) (da_cons (de_lc (own := [("here", 4), ("there", 5)]) rfl nd (di_zip (by rfl) T.z_zip (da_cons (de_var 2) (da_cons (de_sl (de_var 2) de_int) da_nil))) (blkOk_by (N := N_changes_of) (sc := defScope s_changes_of) (by decide +kernel)) (fun _ _ _ _ _ => (dg_t rfl (dgs_cons (dg_n (i := 4) nd rfl (by first | exact .inl rfl | exact .inr rfl)) (dgs_cons (dg_n (i := 5) nd rfl (by first | exact .inl rfl | exact .inr rfl)) dgs_nil)))) (by decide) (fun _ _ _ _ _ => (dpt_one (dt_cmp ((opG_ne hu)) (opd_rG _) (de_var 4) (de_var 5) (nomark _)))) (fun _ _ _ _ _ => de_int)) da_nil)))))
theorem sc_up_to_changes : FnScope N_up_to_changes ["n", "k"] (defScope s_up_to_changes) := ⟨rfl, rfl, rfl, by decide +kernel, rfl, by decide +kernel, by decide +kernel⟩
set_option maxHeartbeats 0 in
theorem ok_up_to_changes (T : Facts K mg) : FnG PP w K mg base 6 T.f_up_to_changes T.d_up_to_changes ["n", "k"] (spF K mg 2 r_up_to_changes) := by
  have G_require_things_and_size := ok_require_things_and_size (w := w) (base := base) T
  have G_changes_of := ok_changes_of (w := w) (base := base) T
  have G_family_by := ok_family_by (w := w) (base := base) T
  refine fn_ok (N := N_up_to_changes) (k := 5) T.F_up_to_changes sc_up_to_changes rfl (body := m_up_to_changes) fun cdv A outer s H E hr gd => ?_
  have hu := hr.units
  have hu0 := hr.units0
  have hur := room80 hr
  have nd := sc_up_to_changes.nd
  exact (db_cons (ds_expr (de_call (takes_of rfl rfl rfl rfl) G_require_things_and_size (hr.mono (by decide)) gd (by rfl) T.g_require_things_and_size T.F_require_things_and_size.kp T.b_require_things_and_size (da_cons (de_var 0) (da_cons (de_var 1) da_nil))))
      (db_one (ds_ret (de_call (takes_of rfl rfl rfl rfl) G_family_by (hr.mono (by decide)) gd (by rfl) T.g_family_by T.F_family_by.kp T.b_family_by (da_cons (de_var 0) (da_cons (de_lc (own := [("one", 2)]) rfl nd (di_r1 (by rfl) T.z_range (da_cons (de_op opG_shl (opd_rG _) de_int (de_var 0)) da_nil)) (blkOk_by (N := N_up_to_changes) (sc := defScope s_up_to_changes) (by decide +kernel)) (fun _ _ _ _ _ => (dg_n (i := 2) nd rfl (by first | exact .inl rfl | exact .inr rfl))) (by decide) (fun _ _ _ _ _ => (dpt_one (dt_cmp (opG_le) (opd_rG _) (de_call takes0 G_changes_of (hr.mono (by decide)) gd (by rfl) T.g_changes_of T.F_changes_of.kp T.b_changes_of (da_cons (de_var 0) (da_cons (de_var 2) da_nil))) (de_var 1) (nomark _)))) (fun _ _ _ _ _ => (de_var 2))) da_nil))))))
theorem sc_size_of : FnScope N_size_of ["part"] (defScope s_size_of) := ⟨rfl, rfl, rfl, by decide +kernel, rfl, by decide +kernel, by decide +kernel⟩
set_option maxHeartbeats 0 in
theorem ok_size_of (T : Facts K mg) : FnG PP w K mg base 1 T.f_size_of T.d_size_of ["part"] (spF K mg 1 r_size_of) := by
  refine fn_ok (N := N_size_of) (k := 0) T.F_size_of sc_size_of rfl (body := m_size_of) fun cdv A outer s H E hr gd => ?_
  have hu := hr.units
  have hu0 := hr.units0
  have hur := room80 hr
  have nd := sc_size_of.nd
  exact (db_cons (ds_par (i := 1) (j := 2) rfl nd rfl rfl (by decide) rfl rfl de_int (de_var 0) (by rfl))
      (db_cons (ds_while 2000 (passes_of rfl) (dt_cmp ((opG_ne hu)) (opd_rG _) (de_var 2) de_int (nomark _)) (db_cons (ds_aug (i := 2) nd rfl (by first | exact .inl rfl | exact .inr rfl) (de_op opG_sub (opd_rG _) (de_var 2) de_int) iopG_band (opd_rG _))
      (db_one (ds_aug (i := 1) nd rfl (by first | exact .inl rfl | exact .inr rfl) de_int iopG_add (opd_rG _)))))
      (db_one (ds_ret (de_var 1)))))
theorem sc_at_most : FnScope N_at_most ["n", "k"] (defScope s_at_most) := ⟨rfl, rfl, rfl, by decide +kernel, rfl, by decide +kernel, by decide +kernel⟩
set_option maxHeartbeats 0 in
theorem ok_at_most (T : Facts K mg) : FnG PP w K mg base 6 T.f_at_most T.d_at_most ["n", "k"] (spF K mg 2 r_at_most) := by
  have G_require_things_and_size := ok_require_things_and_size (w := w) (base := base) T
  have G_size_of := ok_size_of (w := w) (base := base) T
  have G_family_by := ok_family_by (w := w) (base := base) T
  refine fn_ok (N := N_at_most) (k := 5) T.F_at_most sc_at_most rfl (body := m_at_most) fun cdv A outer s H E hr gd => ?_
  have hu := hr.units
  have hu0 := hr.units0
  have hur := room80 hr
  have nd := sc_at_most.nd
  exact (db_cons (ds_expr (de_call (takes_of rfl rfl rfl rfl) G_require_things_and_size (hr.mono (by decide)) gd (by rfl) T.g_require_things_and_size T.F_require_things_and_size.kp T.b_require_things_and_size (da_cons (de_var 0) (da_cons (de_var 1) da_nil))))
      (db_one (ds_ret (de_call (takes_of rfl rfl rfl rfl) G_family_by (hr.mono (by decide)) gd (by rfl) T.g_family_by T.F_family_by.kp T.b_family_by (da_cons (de_var 0) (da_cons (de_lc (own := [("one", 2)]) rfl nd (di_r1 (by rfl) T.z_range (da_cons (de_op opG_shl (opd_rG _) de_int (de_var 0)) da_nil)) (blkOk_by (N := N_at_most) (sc := defScope s_at_most) (by decide +kernel)) (fun _ _ _ _ _ => (dg_n (i := 2) nd rfl (by first | exact .inl rfl | exact .inr rfl))) (by decide) (fun _ _ _ _ _ => (dpt_one (dt_cmp (opG_le) (opd_rG _) (de_call takes0 G_size_of (hr.mono (by decide)) gd (by rfl) T.g_size_of T.F_size_of.kp T.b_size_of (da_cons (de_var 2) da_nil)) (de_var 1) (nomark _)))) (fun _ _ _ _ _ => (de_var 2))) da_nil))))))
theorem sc_just : FnScope N_just ["n", "k"] (defScope s_just) := ⟨rfl, rfl, rfl, by decide +kernel, rfl, by decide +kernel, by decide +kernel⟩
set_option maxHeartbeats 0 in
theorem ok_just (T : Facts K mg) : FnG PP w K mg base 6 T.f_just T.d_just ["n", "k"] (spF K mg 2 r_just) := by
  have G_require_things_and_size := ok_require_things_and_size (w := w) (base := base) T
  have G_size_of := ok_size_of (w := w) (base := base) T
  have G_family_by := ok_family_by (w := w) (base := base) T
  refine fn_ok (N := N_just) (k := 5) T.F_just sc_just rfl (body := m_just) fun cdv A outer s H E hr gd => ?_
  have hu := hr.units
  have hu0 := hr.units0
  have hur := room80 hr
  have nd := sc_just.nd
  exact (db_cons (ds_expr (de_call (takes_of rfl rfl rfl rfl) G_require_things_and_size (hr.mono (by decide)) gd (by rfl) T.g_require_things_and_size T.F_require_things_and_size.kp T.b_require_things_and_size (da_cons (de_var 0) (da_cons (de_var 1) da_nil))))
      (db_one (ds_ret (de_call (takes_of rfl rfl rfl rfl) G_family_by (hr.mono (by decide)) gd (by rfl) T.g_family_by T.F_family_by.kp T.b_family_by (da_cons (de_var 0) (da_cons (de_lc (own := [("one", 2)]) rfl nd (di_r1 (by rfl) T.z_range (da_cons (de_op opG_shl (opd_rG _) de_int (de_var 0)) da_nil)) (blkOk_by (N := N_just) (sc := defScope s_just) (by decide +kernel)) (fun _ _ _ _ _ => (dg_n (i := 2) nd rfl (by first | exact .inl rfl | exact .inr rfl))) (by decide) (fun _ _ _ _ _ => (dpt_one (dt_cmp ((opG_eq hu)) (opd_rG _) (de_call takes0 G_size_of (hr.mono (by decide)) gd (by rfl) T.g_size_of T.F_size_of.kp T.b_size_of (da_cons (de_var 2) da_nil)) (de_var 1) (nomark _)))) (fun _ _ _ _ _ => (de_var 2))) da_nil))))))
theorem sc__law_ascending : FnScope N__law_ascending ["items"] (defScope s__law_ascending) := ⟨rfl, rfl, rfl, by decide +kernel, rfl, by decide +kernel, by decide +kernel⟩
set_option maxHeartbeats 0 in
theorem ok__law_ascending (T : Facts K mg) : FnG PP w K mg base 1 T.f__law_ascending T.d__law_ascending ["items"] (spF K mg 1 r__law_ascending) := by
  refine fn_ok (N := N__law_ascending) (k := 0) T.F__law_ascending sc__law_ascending rfl (body := m__law_ascending) fun cdv A outer s H E hr gd => ?_
  have hu := hr.units
  have hu0 := hr.units0
  have hur := room80 hr
  have nd := sc__law_ascending.nd
  exact (db_one (ds_ret (de_callB (callG_sorted rfl hu) (calld_rC _) (by rfl) T.z_sorted (by rfl) (da_cons (de_callTy (callG_dict rfl hu) (calld_rC _) (by rfl) T.z_dict (by rfl) (da_cons (de_lc (own := [("one", 1)]) rfl nd (di_v (de_var 0)) (blkOk_by (N := N__law_ascending) (sc := defScope s__law_ascending) (by decide +kernel)) (fun _ _ _ _ _ => (dg_n (i := 1) nd rfl (by first | exact .inl rfl | exact .inr rfl))) (by decide) (fun _ _ _ _ _ => dpt_nil) (fun _ _ _ _ _ => (de_tup (da_cons (de_var 1) (da_cons de_bl da_nil))))) da_nil)) da_nil))))
theorem sc__law_family : FnScope N__law_family ["n", "lots"] (defScope s__law_family) := ⟨rfl, rfl, rfl, by decide +kernel, rfl, by decide +kernel, by decide +kernel⟩
set_option maxHeartbeats 0 in
theorem ok__law_family (T : Facts K mg) : FnG PP w K mg base 2 T.f__law_family T.d__law_family ["n", "lots"] (spF K mg 2 r__law_family) := by
  have G__law_ascending := ok__law_ascending (w := w) (base := base) T
  refine fn_ok (N := N__law_family) (k := 1) T.F__law_family sc__law_family rfl (body := m__law_family) fun cdv A outer s H E hr gd => ?_
  have hu := hr.units
  have hu0 := hr.units0
  have hur := room80 hr
  have nd := sc__law_family.nd
  exact (db_one (ds_ret (de_tup (da_cons (de_var 0) (da_cons (de_callTy callG_tuple (calld_rC _) (by rfl) T.z_tuple (by rfl) (da_cons (de_call (takes_of rfl rfl rfl rfl) G__law_ascending (hr.mono (by decide)) gd (by rfl) T.g__law_ascending T.F__law_ascending.kp T.b__law_ascending (da_cons (de_var 1) da_nil)) da_nil)) da_nil)))))
theorem sc__law_thresholds : FnScope N__law_thresholds ["n"] (defScope s__law_thresholds) := ⟨rfl, rfl, rfl, by decide +kernel, rfl, by decide +kernel, by decide +kernel⟩
set_option maxHeartbeats 0 in
theorem ok__law_thresholds (T : Facts K mg) : FnG PP w K mg base 3 T.f__law_thresholds T.d__law_thresholds ["n"] (spF K mg 1 r__law_thresholds) := by
  have G__law_family := ok__law_family (w := w) (base := base) T
  refine fn_ok (N := N__law_thresholds) (k := 2) T.F__law_thresholds sc__law_thresholds rfl (body := m__law_thresholds) fun cdv A outer s H E hr gd => ?_
  have hu := hr.units
  have hu0 := hr.units0
  have hur := room80 hr
  have nd := sc__law_thresholds.nd
  exact (db_one (ds_ret (de_call (takes_of rfl rfl rfl rfl) G__law_family (hr.mono (by decide)) gd (by rfl) T.g__law_family T.F__law_family.kp T.b__law_family (da_cons (de_var 0) (da_cons (de_lc (own := [("k", 1)]) rfl nd (di_r1 (by rfl) T.z_range (da_cons (de_op opG_add (opd_rG _) (de_var 0) de_int) da_nil)) (blkOk_by (N := N__law_thresholds) (sc := defScope s__law_thresholds) (by decide +kernel)) (fun _ _ _ _ _ => (dg_n (i := 1) nd rfl (by first | exact .inl rfl | exact .inr rfl))) (by decide) (fun _ _ _ _ _ => dpt_nil) (fun _ _ _ _ _ => (de_tupR1 rfl (by rfl) T.z_tuple (by rfl) T.z_range (de_var 1)))) da_nil)))))
theorem sc__law_stretches : FnScope N__law_stretches ["n"] (defScope s__law_stretches) := ⟨rfl, rfl, rfl, by decide +kernel, rfl, by decide +kernel, by decide +kernel⟩
set_option maxHeartbeats 0 in
theorem ok__law_stretches (T : Facts K mg) : FnG PP w K mg base 3 T.f__law_stretches T.d__law_stretches ["n"] (spF K mg 1 r__law_stretches) := by
  have G__law_family := ok__law_family (w := w) (base := base) T
  refine fn_ok (N := N__law_stretches) (k := 2) T.F__law_stretches sc__law_stretches rfl (body := m__law_stretches) fun cdv A outer s H E hr gd => ?_
  have hu := hr.units
  have hu0 := hr.units0
  have hur := room80 hr
  have nd := sc__law_stretches.nd
  exact (db_cons (ds_set (i := 1) nd rfl (by first | exact .inl rfl | exact .inr rfl) (de_lst (da_cons (de_tup da_nil) da_nil)))
      (db_cons (ds_for (passes_of rfl) rfl (di_r1 (by rfl) T.z_range (da_cons (de_var 0) da_nil)) (dg_n (i := 2) nd rfl (by first | exact .inl rfl | exact .inr rfl)) (db_one (ds_expr (de_meth PySem.F.plainAttrs_list PySem.F.slot_list_extend PySem.F.type_list_extend mt_extend met_extend (pv 1) (da_cons (de_lc (own := [("last", 3)]) rfl nd (di_r2 (by rfl) T.z_range (da_cons (de_op opG_add (opd_rG _) (de_var 2) de_int) (da_cons (de_op opG_add (opd_rG _) (de_var 0) de_int) da_nil))) (blkOk_by (N := N__law_stretches) (sc := defScope s__law_stretches) (by decide +kernel)) (fun _ _ _ _ _ => (dg_n (i := 3) nd rfl (by first | exact .inl rfl | exact .inr rfl))) (by decide) (fun _ _ _ _ _ => dpt_nil) (fun _ _ _ _ _ => (de_tupR2 rfl (by rfl) T.z_tuple (by rfl) T.z_range (de_var 2) (de_var 3)))) da_nil)))))
      (db_one (ds_ret (de_call (takes_of rfl rfl rfl rfl) G__law_family (hr.mono (by decide)) gd (by rfl) T.g__law_family T.F__law_family.kp T.b__law_family (da_cons (de_var 0) (da_cons (de_var 1) da_nil)))))))
theorem sc__law_at_most : FnScope N__law_at_most ["n", "d"] (defScope s__law_at_most) := ⟨rfl, rfl, rfl, by decide +kernel, rfl, by decide +kernel, by decide +kernel⟩
set_option maxHeartbeats 0 in
theorem ok__law_at_most (T : Facts K mg) : FnG PP w K mg base 3 T.f__law_at_most T.d__law_at_most ["n", "d"] (spF K mg 2 r__law_at_most) := by
  have G__law_all_lots := ok__law_all_lots (w := w) (base := base) T
  have G__law_family := ok__law_family (w := w) (base := base) T
  refine fn_ok (N := N__law_at_most) (k := 2) T.F__law_at_most sc__law_at_most rfl (body := m__law_at_most) fun cdv A outer s H E hr gd => ?_
  have hu := hr.units
  have hu0 := hr.units0
  have hur := room80 hr
  have nd := sc__law_at_most.nd
  exact (db_one (ds_ret (de_call (takes_of rfl rfl rfl rfl) G__law_family (hr.mono (by decide)) gd (by rfl) T.g__law_family T.F__law_family.kp T.b__law_family (da_cons (de_var 0) (da_cons (de_lc (own := [("lot", 2)]) rfl nd (di_v (de_call (takes_of rfl rfl rfl rfl) G__law_all_lots (hr.mono (by decide)) gd (by rfl) T.g__law_all_lots T.F__law_all_lots.kp T.b__law_all_lots (da_cons (de_var 0) da_nil))) (blkOk_by (N := N__law_at_most) (sc := defScope s__law_at_most) (by decide +kernel)) (fun _ _ _ _ _ => (dg_n (i := 2) nd rfl (by first | exact .inl rfl | exact .inr rfl))) (by decide) (fun _ _ _ _ _ => (dpt_one (dt_cmp (opG_le) (opd_rG _) (de_callB callG_len (calld_rC _) (by rfl) T.z_len (by rfl) (da_cons (de_var 2) da_nil)) (de_var 1) (nomark _)))) (fun _ _ _ _ _ => (de_var 2))) da_nil)))))
theorem sc__law_cr_choose : FnScope N__law_cr_choose ["n", "k"] (defScope s__law_cr_choose) := ⟨rfl, rfl, rfl, by decide +kernel, rfl, by decide +kernel, by decide +kernel⟩
set_option maxHeartbeats 0 in
theorem ok__law_cr_choose (T : Facts K mg) : FnG PP w K mg base 1 T.f__law_cr_choose T.d__law_cr_choose ["n", "k"] (spF K mg 2 r__law_cr_choose) := by
  refine fn_ok (N := N__law_cr_choose) (k := 0) T.F__law_cr_choose sc__law_cr_choose rfl (body := m__law_cr_choose) fun cdv A outer s H E hr gd => ?_
  have hu := hr.units
  have hu0 := hr.units0
  have hur := room80 hr
  have nd := sc__law_cr_choose.nd
  exact (db_cons (ds_set (i := 2) nd rfl (by first | exact .inl rfl | exact .inr rfl) de_int)
      (db_cons (ds_for (passes_of rfl) rfl (di_r1 (by rfl) T.z_range (da_cons (de_var 1) da_nil)) (dg_n (i := 3) nd rfl (by first | exact .inl rfl | exact .inr rfl)) (db_one (ds_set (i := 2) nd rfl (by first | exact .inl rfl | exact .inr rfl) (de_op opG_fdiv (opd_rG _) (de_op opG_mul (opd_rG _) (de_var 2) (de_op opG_sub (opd_rG _) (de_var 0) (de_var 3))) (de_op opG_add (opd_rG _) (de_var 3) de_int)))))
      (db_one (ds_ret (de_if (dt_chain (opG_le) (opG_le) (opd_rG _) (opd_rG _) de_int (de_var 1) (de_var 0)) (de_var 2) de_int)))))
theorem sc__law_sums_upto : FnScope N__law_sums_upto ["n", "k"] (defScope s__law_sums_upto) := ⟨rfl, rfl, rfl, by decide +kernel, rfl, by decide +kernel, by decide +kernel⟩
set_option maxHeartbeats 0 in
theorem ok__law_sums_upto (T : Facts K mg) : FnG PP w K mg base 2 T.f__law_sums_upto T.d__law_sums_upto ["n", "k"] (spF K mg 2 r__law_sums_upto) := by
  have G__law_cr_choose := ok__law_cr_choose (w := w) (base := base) T
  refine fn_ok (N := N__law_sums_upto) (k := 1) T.F__law_sums_upto sc__law_sums_upto rfl (body := m__law_sums_upto) fun cdv A outer s H E hr gd => ?_
  have hu := hr.units
  have hu0 := hr.units0
  have hur := room80 hr
  have nd := sc__law_sums_upto.nd
  exact (db_one (ds_ret (de_callB (callG_sum rfl) (calld_rC _) (by rfl) T.z_sum (by rfl) (da_cons (de_lc (own := [("j", 2)]) rfl nd (di_r1 (by rfl) T.z_range (da_cons (de_op opG_add (opd_rG _) (de_var 1) de_int) da_nil)) (blkOk_by (N := N__law_sums_upto) (sc := defScope s__law_sums_upto) (by decide +kernel)) (fun _ _ _ _ _ => (dg_n (i := 2) nd rfl (by first | exact .inl rfl | exact .inr rfl))) (by decide) (fun _ _ _ _ _ => dpt_nil) (fun _ _ _ _ _ => (de_call takes0 G__law_cr_choose (hr.mono (by decide)) gd (by rfl) T.g__law_cr_choose T.F__law_cr_choose.kp T.b__law_cr_choose (da_cons (de_var 0) (da_cons (de_var 2) da_nil))))) da_nil))))
theorem sc__law_lots_right : FnScope N__law_lots_right ["n", "k"] (defScope s__law_lots_right) := ⟨rfl, rfl, rfl, by decide +kernel, rfl, by decide +kernel, by decide +kernel⟩
set_option maxHeartbeats 0 in
theorem ok__law_lots_right (T : Facts K mg) : FnG PP w K mg base 7 T.f__law_lots_right T.d__law_lots_right ["n", "k"] (spF K mg 2 r__law_lots_right) := by
  have G__law_all_lots := ok__law_all_lots (w := w) (base := base) T
  have G__law_md_changes := ok__law_md_changes (w := w) (base := base) T
  have G_thresholds := ok_thresholds (w := w) (base := base) T
  have G_stretches := ok_stretches (w := w) (base := base) T
  have G_up_to_changes := ok_up_to_changes (w := w) (base := base) T
  have G_at_most := ok_at_most (w := w) (base := base) T
  have G_just := ok_just (w := w) (base := base) T
  have G__law_thresholds := ok__law_thresholds (w := w) (base := base) T
  have G__law_stretches := ok__law_stretches (w := w) (base := base) T
  have G__law_at_most := ok__law_at_most (w := w) (base := base) T
  have G__law_sums_upto := ok__law_sums_upto (w := w) (base := base) T
  refine fn_ok (N := N__law_lots_right) (k := 6) T.F__law_lots_right sc__law_lots_right rfl (body := m__law_lots_right) fun cdv A outer s H E hr gd => ?_
  have hu := hr.units
  have hu0 := hr.units0
  have hur := room80 hr
  have nd := sc__law_lots_right.nd
  exact (db_cons (ds_set (i := 2) nd rfl (by first | exact .inl rfl | exact .inr rfl) (de_call (takes_of rfl rfl rfl rfl) G__law_all_lots (hr.mono (by decide)) gd (by rfl) T.g__law_all_lots T.F__law_all_lots.kp T.b__law_all_lots (da_cons (de_var 0) da_nil)))
      (db_cons (ds_setLc (i := 3) (own := [("lot", 4)]) rfl nd rfl rfl (sw_true rfl rfl rfl (by decide +kernel)) (di_v (de_var 2)) (blkOk_by (N := N__law_lots_right) (sc := defScope s__law_lots_right) (by decide +kernel)) (fun _ _ _ _ _ => (dg_n (i := 4) nd rfl (by first | exact .inl rfl | exact .inr rfl))) (by decide) (fun _ _ _ _ _ => (dpt_one (dt_cmp (opG_le) (opd_rG _) (de_call takes0 G__law_md_changes (hr.mono (by decide)) gd (by rfl) T.g__law_md_changes T.F__law_md_changes.kp T.b__law_md_changes (da_cons (de_var 0) (da_cons (de_var 4) da_nil))) (de_var 1) (nomark _)))) (fun _ _ _ _ _ => (de_var 4)))
      (db_cons (ds_set (i := 5) nd rfl (by first | exact .inl rfl | exact .inr rfl) (de_lst (da_cons (de_call (takes_of rfl rfl rfl rfl) G_thresholds (hr.mono (by decide)) gd (by rfl) T.g_thresholds T.F_thresholds.kp T.b_thresholds (da_cons (de_var 0) da_nil)) (da_cons (de_call (takes_of rfl rfl rfl rfl) G_stretches (hr.mono (by decide)) gd (by rfl) T.g_stretches T.F_stretches.kp T.b_stretches (da_cons (de_var 0) da_nil)) (da_cons (de_call (takes_of rfl rfl rfl rfl) G_up_to_changes (hr.mono (by decide)) gd (by rfl) T.g_up_to_changes T.F_up_to_changes.kp T.b_up_to_changes (da_cons (de_var 0) (da_cons (de_var 1) da_nil))) (da_cons (de_call (takes_of rfl rfl rfl rfl) G_at_most (hr.mono (by decide)) gd (by rfl) T.g_at_most T.F_at_most.kp T.b_at_most (da_cons (de_var 0) (da_cons (de_var 1) da_nil))) (da_cons (de_call (takes_of rfl rfl rfl rfl) G_just (hr.mono (by decide)) gd (by rfl) T.g_just T.F_just.kp T.b_just (da_cons (de_var 0) (da_cons (de_var 1) da_nil))) da_nil)))))))
      (db_cons (ds_set (i := 6) nd rfl (by first | exact .inl rfl | exact .inr rfl) (de_lst (da_cons (de_call (takes_of rfl rfl rfl rfl) G__law_thresholds (hr.mono (by decide)) gd (by rfl) T.g__law_thresholds T.F__law_thresholds.kp T.b__law_thresholds (da_cons (de_var 0) da_nil)) (da_cons (de_call (takes_of rfl rfl rfl rfl) G__law_stretches (hr.mono (by decide)) gd (by rfl) T.g__law_stretches T.F__law_stretches.kp T.b__law_stretches (da_cons (de_var 0) da_nil)) (da_cons (de_tup (da_cons (de_var 0) (da_cons (de_callTy callG_tuple (calld_rC _) (by rfl) T.z_tuple (by rfl) (da_cons (de_var 3) da_nil)) da_nil))) (da_cons (de_call (takes_of rfl rfl rfl rfl) G__law_at_most (hr.mono (by decide)) gd (by rfl) T.g__law_at_most T.F__law_at_most.kp T.b__law_at_most (da_cons (de_var 0) (da_cons (de_var 1) da_nil))) da_nil))))))
      (db_cons (ds_if (dt_cmp ((opG_ne hu)) (opd_rG _) (de_callB (callG_repr gd hur) (calld_rC _) (by rfl) T.z_repr (by rfl) (da_cons (de_var 5) da_nil)) (de_callB (callG_repr gd hur) (calld_rC _) (by rfl) T.z_repr (by rfl) (da_cons (de_op opG_add (opd_rG _) (de_var 6) (de_lst (da_cons (de_tup (da_cons (de_var 0) (da_cons (de_callTy callG_tuple (calld_rC _) (by rfl) T.z_tuple (by rfl) (da_cons (de_lc (own := [("lot", 4)]) rfl nd (di_v (de_var 2)) (blkOk_by (N := N__law_lots_right) (sc := defScope s__law_lots_right) (by decide +kernel)) (fun _ _ _ _ _ => (dg_n (i := 4) nd rfl (by first | exact .inl rfl | exact .inr rfl))) (by decide) (fun _ _ _ _ _ => (dpt_one (dt_cmp ((opG_eq hu)) (opd_rG _) (de_callB callG_len (calld_rC _) (by rfl) T.z_len (by rfl) (da_cons (de_var 4) da_nil)) (de_var 1) (nomark _)))) (fun _ _ _ _ _ => (de_var 4))) da_nil)) da_nil))) da_nil))) da_nil)) (nomark _)) (db_one (ds_ret de_bl)) db_nil)
      (db_one (ds_ret (de_and (de_cmp ((opG_eq hu)) (opd_rG _) (de_callB callG_len (calld_rC _) (by rfl) T.z_len (by rfl) (da_cons (de_var 3) da_nil)) (de_op opG_mul (opd_rG _) de_int (de_call (takes_of rfl rfl rfl rfl) G__law_sums_upto (hr.mono (by decide)) gd (by rfl) T.g__law_sums_upto T.F__law_sums_upto.kp T.b__law_sums_upto (da_cons (de_op opG_sub (opd_rG _) (de_var 0) de_int) (da_cons (de_var 1) da_nil)))) (nomark _)) (de_one (de_cmp ((opG_eq hu)) (opd_rG _) (de_callB callG_len (calld_rC _) (by rfl) T.z_len (by rfl) (da_cons (de_ixG (de_ixG (de_var 5) de_int) de_int) da_nil)) (de_op opG_add (opd_rG _) (de_op opG_fdiv (opd_rG _) (de_op opG_mul (opd_rG _) (de_var 0) (de_op opG_add (opd_rG _) (de_var 0) de_int)) de_int) de_int) (nomark _)))))))))))
theorem sc_is_within : FnScope N_is_within ["value", "least", "most"] (defScope s_is_within) := ⟨rfl, rfl, rfl, by decide +kernel, rfl, by decide +kernel, by decide +kernel⟩
set_option maxHeartbeats 0 in
theorem ok_is_within (T : Facts K mg) : FnG PP w K mg base 2 T.f_is_within T.d_is_within ["value", "least", "most"] (spF K mg 3 r_is_within) := by
  have G_is_whole := ok_is_whole (w := w) (base := base) T
  refine fn_ok (N := N_is_within) (k := 1) T.F_is_within sc_is_within rfl (body := m_is_within) fun cdv A outer s H E hr gd => ?_
  have hu := hr.units
  have hu0 := hr.units0
  have hur := room80 hr
  have nd := sc_is_within.nd
  exact (db_one (ds_ret (de_and (de_call (takes_of rfl rfl rfl rfl) G_is_whole (hr.mono (by decide)) gd (by rfl) T.g_is_whole T.F_is_whole.kp T.b_is_whole (da_cons (de_var 0) da_nil)) (de_one (de_chain (opG_le) (opG_le) (opd_rG _) (opd_rG _) (de_var 1) (de_var 0) (de_var 2))))))
theorem sc_is_row_of : FnScope N_is_row_of ["value", "least", "most"] (defScope s_is_row_of) := ⟨rfl, rfl, rfl, by decide +kernel, rfl, by decide +kernel, by decide +kernel⟩
set_option maxHeartbeats 0 in
theorem ok_is_row_of (T : Facts K mg) : FnG PP w K mg base 3 T.f_is_row_of T.d_is_row_of ["value", "least", "most"] (spF K mg 3 r_is_row_of) := by
  have G_is_within := ok_is_within (w := w) (base := base) T
  refine fn_ok (N := N_is_row_of) (k := 2) T.F_is_row_of sc_is_row_of rfl (body := m_is_row_of) fun cdv A outer s H E hr gd => ?_
  have hu := hr.units
  have hu0 := hr.units0
  have hur := room80 hr
  have nd := sc_is_row_of.nd
  exact (db_one (ds_ret (de_and (de_callB callG_isi (calld_rC _) (by rfl) T.z_isinstance (by rfl) (da_cons (de_var 0) (da_cons (de_ty (by rfl) T.z_tuple (by rfl)) da_nil))) (de_one (de_callB (callG_all rfl) (calld_rC _) (by rfl) T.z_all (by rfl) (da_cons (de_lc (own := [("one", 3)]) rfl nd (di_v (de_var 0)) (blkOk_by (N := N_is_row_of) (sc := defScope s_is_row_of) (by decide +kernel)) (fun _ _ _ _ _ => (dg_n (i := 3) nd rfl (by first | exact .inl rfl | exact .inr rfl))) (by decide) (fun _ _ _ _ _ => dpt_nil) (fun _ _ _ _ _ => (de_call takes0 G_is_within (hr.mono (by decide)) gd (by rfl) T.g_is_within T.F_is_within.kp T.b_is_within (da_cons (de_var 3) (da_cons (de_var 1) (da_cons (de_var 2) da_nil)))))) da_nil))))))
theorem sc_is_ascending : FnScope N_is_ascending ["items"] (defScope s_is_ascending) := ⟨rfl, rfl, rfl, by decide +kernel, rfl, by decide +kernel, by decide +kernel⟩
set_option maxHeartbeats 0 in
theorem ok_is_ascending (T : Facts K mg) : FnG PP w K mg base 1 T.f_is_ascending T.d_is_ascending ["items"] (spF K mg 1 r_is_ascending) := by
  refine fn_ok (N := N_is_ascending) (k := 0) T.F_is_ascending sc_is_ascending rfl (body := m_is_ascending) fun cdv A outer s H E hr gd => ?_
  have hu := hr.units
  have hu0 := hr.units0
  have hur := room80 hr
  have nd := sc_is_ascending.nd
  exact (db_one (ds_ret (de_callB (callG_all rfl) (calld_rC _) (by rfl) T.z_all (by rfl) (da_cons (de_lc (own := [("one", 1), ("other", 2)]) rfl nd (di_zip (by rfl) T.z_zip (da_cons (de_var 0) (da_cons (de_sl (de_var 0) de_int) da_nil))) (blkOk_by (N := N_is_ascending) (sc := defScope s_is_ascending) (by decide +kernel)) (fun _ _ _ _ _ => (dg_t rfl (dgs_cons (dg_n (i := 1) nd rfl (by first | exact .inl rfl | exact .inr rfl)) (dgs_cons (dg_n (i := 2) nd rfl (by first | exact .inl rfl | exact .inr rfl)) dgs_nil)))) (by decide) (fun _ _ _ _ _ => dpt_nil) (fun _ _ _ _ _ => (de_cmp (opG_lt hu0) (opd_rG _) (de_var 1) (de_var 2) (nomark _)))) da_nil))))
theorem sc_is_rising_row : FnScope N_is_rising_row ["value", "most"] (defScope s_is_rising_row) := ⟨rfl, rfl, rfl, by decide +kernel, rfl, by decide +kernel, by decide +kernel⟩
set_option maxHeartbeats 0 in
theorem ok_is_rising_row (T : Facts K mg) : FnG PP w K mg base 4 T.f_is_rising_row T.d_is_rising_row ["value", "most"] (spF K mg 2 r_is_rising_row) := by
  have G_is_row_of := ok_is_row_of (w := w) (base := base) T
  have G_is_ascending := ok_is_ascending (w := w) (base := base) T
  refine fn_ok (N := N_is_rising_row) (k := 3) T.F_is_rising_row sc_is_rising_row rfl (body := m_is_rising_row) fun cdv A outer s H E hr gd => ?_
  have hu := hr.units
  have hu0 := hr.units0
  have hur := room80 hr
  have nd := sc_is_rising_row.nd
  exact (db_one (ds_ret (de_and (de_call (takes_of rfl rfl rfl rfl) G_is_row_of (hr.mono (by decide)) gd (by rfl) T.g_is_row_of T.F_is_row_of.kp T.b_is_row_of (da_cons (de_var 0) (da_cons de_int (da_cons (de_var 1) da_nil)))) (de_one (de_call (takes_of rfl rfl rfl rfl) G_is_ascending (hr.mono (by decide)) gd (by rfl) T.g_is_ascending T.F_is_ascending.kp T.b_is_ascending (da_cons (de_var 0) da_nil))))))
theorem sc_is_lot_in : FnScope N_is_lot_in ["n", "value"] (defScope s_is_lot_in) := ⟨rfl, rfl, rfl, by decide +kernel, rfl, by decide +kernel, by decide +kernel⟩
set_option maxHeartbeats 0 in
theorem ok_is_lot_in (T : Facts K mg) : FnG PP w K mg base 5 T.f_is_lot_in T.d_is_lot_in ["n", "value"] (spF K mg 2 r_is_lot_in) := by
  have G_is_rising_row := ok_is_rising_row (w := w) (base := base) T
  refine fn_ok (N := N_is_lot_in) (k := 4) T.F_is_lot_in sc_is_lot_in rfl (body := m_is_lot_in) fun cdv A outer s H E hr gd => ?_
  have hu := hr.units
  have hu0 := hr.units0
  have hur := room80 hr
  have nd := sc_is_lot_in.nd
  exact (db_one (ds_ret (de_call (takes_of rfl rfl rfl rfl) G_is_rising_row (hr.mono (by decide)) gd (by rfl) T.g_is_rising_row T.F_is_rising_row.kp T.b_is_rising_row (da_cons (de_var 1) (da_cons (de_op opG_sub (opd_rG _) (de_var 0) de_int) da_nil)))))
theorem sc_is_family_in : FnScope N_is_family_in ["value"] (defScope s_is_family_in) := ⟨rfl, rfl, rfl, by decide +kernel, rfl, by decide +kernel, by decide +kernel⟩
set_option maxHeartbeats 0 in
theorem ok_is_family_in (T : Facts K mg) : FnG PP w K mg base 6 T.f_is_family_in T.d_is_family_in ["value"] (spF K mg 1 r_is_family_in) := by
  have G_is_within := ok_is_within (w := w) (base := base) T
  have G_is_lot_in := ok_is_lot_in (w := w) (base := base) T
  have G_is_ascending := ok_is_ascending (w := w) (base := base) T
  refine fn_ok (N := N_is_family_in) (k := 5) T.F_is_family_in sc_is_family_in rfl (body := m_is_family_in) fun cdv A outer s H E hr gd => ?_
  have hu := hr.units
  have hu0 := hr.units0
  have hur := room80 hr
  have nd := sc_is_family_in.nd
  exact (db_cons (ds_if (dt_w (dw_or (dt_not (dt_truth (de_callB callG_isi (calld_rC _) (by rfl) T.z_isinstance (by rfl) (da_cons (de_var 0) (da_cons (de_ty (by rfl) T.z_tuple (by rfl)) da_nil))))) (dw_or (dt_cmp ((opG_ne hu)) (opd_rG _) (de_callB callG_len (calld_rC _) (by rfl) T.z_len (by rfl) (da_cons (de_var 0) da_nil)) (de_gi (by rfl) T.c_PAIR_SIZE) (nomark _)) (dw_or1 (dt_not (dt_truth (de_call (takes_of rfl rfl rfl rfl) G_is_within (hr.mono (by decide)) gd (by rfl) T.g_is_within T.F_is_within.kp T.b_is_within (da_cons (de_ixG (de_var 0) de_int) (da_cons de_int (da_cons (de_gi (by rfl) T.c_MOST_THINGS) da_nil)))))))))) (db_one (ds_ret de_bl)) db_nil)
      (db_cons (ds_asg (de_var 0) (dg_t rfl (dgs_cons (dg_n (i := 1) nd rfl (by first | exact .inl rfl | exact .inr rfl)) (dgs_cons (dg_n (i := 2) nd rfl (by first | exact .inl rfl | exact .inr rfl)) dgs_nil))))
      (db_one (ds_ret (de_and (de_callB callG_isi (calld_rC _) (by rfl) T.z_isinstance (by rfl) (da_cons (de_var 2) (da_cons (de_ty (by rfl) T.z_tuple (by rfl)) da_nil))) (de_and (de_callB (callG_all rfl) (calld_rC _) (by rfl) T.z_all (by rfl) (da_cons (de_lc (own := [("lot", 3)]) rfl nd (di_v (de_var 2)) (blkOk_by (N := N_is_family_in) (sc := defScope s_is_family_in) (by decide +kernel)) (fun _ _ _ _ _ => (dg_n (i := 3) nd rfl (by first | exact .inl rfl | exact .inr rfl))) (by decide) (fun _ _ _ _ _ => dpt_nil) (fun _ _ _ _ _ => (de_call takes0 G_is_lot_in (hr.mono (by decide)) gd (by rfl) T.g_is_lot_in T.F_is_lot_in.kp T.b_is_lot_in (da_cons (de_var 1) (da_cons (de_var 3) da_nil))))) da_nil)) (de_one (de_call (takes_of rfl rfl rfl rfl) G_is_ascending (hr.mono (by decide)) gd (by rfl) T.g_is_ascending T.F_is_ascending.kp T.b_is_ascending (da_cons (de_var 2) da_nil)))))))))
theorem sc_require_family : FnScope N_require_family ["value"] (defScope s_require_family) := ⟨rfl, rfl, rfl, by decide +kernel, rfl, by decide +kernel, by decide +kernel⟩
set_option maxHeartbeats 0 in
theorem ok_require_family (T : Facts K mg) : FnG PP w K mg base 7 T.f_require_family T.d_require_family ["value"] (spF K mg 1 r_require_family) := by
  have G_is_family_in := ok_is_family_in (w := w) (base := base) T
  refine fn_ok (N := N_require_family) (k := 6) T.F_require_family sc_require_family rfl (body := m_require_family) fun cdv A outer s H E hr gd => ?_
  have hu := hr.units
  have hu0 := hr.units0
  have hur := room80 hr
  have nd := sc_require_family.nd
  exact (db_one (ds_if (dt_not (dt_truth (de_call (takes_of rfl rfl rfl rfl) G_is_family_in (hr.mono (by decide)) gd (by rfl) T.g_is_family_in T.F_is_family_in.kp T.b_is_family_in (da_cons (de_var 0) da_nil)))) (db_one ds_never) db_nil))
theorem sc_marks_of : FnScope N_marks_of ["lot"] (defScope s_marks_of) := ⟨rfl, rfl, rfl, by decide +kernel, rfl, by decide +kernel, by decide +kernel⟩
set_option maxHeartbeats 0 in
theorem ok_marks_of (T : Facts K mg) : FnG PP w K mg base 1 T.f_marks_of T.d_marks_of ["lot"] (spF K mg 1 r_marks_of) := by
  refine fn_ok (N := N_marks_of) (k := 0) T.F_marks_of sc_marks_of rfl (body := m_marks_of) fun cdv A outer s H E hr gd => ?_
  have hu := hr.units
  have hu0 := hr.units0
  have hur := room80 hr
  have nd := sc_marks_of.nd
  exact (db_cons (ds_set (i := 1) nd rfl (by first | exact .inl rfl | exact .inr rfl) de_int)
      (db_cons (ds_for (passes_of rfl) rfl (di_v (de_var 0)) (dg_n (i := 2) nd rfl (by first | exact .inl rfl | exact .inr rfl)) (db_one (ds_aug (i := 1) nd rfl (by first | exact .inl rfl | exact .inr rfl) (de_op opG_shl (opd_rG _) de_int (de_var 2)) iopG_bor (opd_rG _))))
      (db_one (ds_ret (de_var 1)))))
theorem sc_marks_in : FnScope N_marks_in ["family"] (defScope s_marks_in) := ⟨rfl, rfl, rfl, by decide +kernel, rfl, by decide +kernel, by decide +kernel⟩
set_option maxHeartbeats 0 in
theorem ok_marks_in (T : Facts K mg) : FnG PP w K mg base 2 T.f_marks_in T.d_marks_in ["family"] (spF K mg 1 r_marks_in) := by
  have G_marks_of := ok_marks_of (w := w) (base := base) T
  refine fn_ok (N := N_marks_in) (k := 1) T.F_marks_in sc_marks_in rfl (body := m_marks_in) fun cdv A outer s H E hr gd => ?_
  have hu := hr.units
  have hu0 := hr.units0
  have hur := room80 hr
  have nd := sc_marks_in.nd
  exact (db_one (ds_ret (de_dc (own := [("lot", 1)]) rfl hu0 nd (di_v (de_ixG (de_var 0) de_int)) (blkOk_by (N := N_marks_in) (sc := defScope s_marks_in) (by decide +kernel)) (fun _ _ _ _ _ => (dg_n (i := 1) nd rfl (by first | exact .inl rfl | exact .inr rfl))) (by decide) (fun _ _ _ _ _ => dpt_nil) (fun _ _ _ _ _ => (de_call takes0 G_marks_of (hr.mono (by decide)) gd (by rfl) T.g_marks_of T.F_marks_of.kp T.b_marks_of (da_cons (de_var 1) da_nil))) (fun _ _ _ _ _ => de_bl))))
theorem sc_traced : FnScope N_traced ["marks", "part"] (defScope s_traced) := ⟨rfl, rfl, rfl, by decide +kernel, rfl, by decide +kernel, by decide +kernel⟩
set_option maxHeartbeats 0 in
theorem ok_traced (T : Facts K mg) : FnG PP w K mg base 1 T.f_traced T.d_traced ["marks", "part"] (spF K mg 2 r_traced) := by
  refine fn_ok (N := N_traced) (k := 0) T.F_traced sc_traced rfl (body := m_traced) fun cdv A outer s H E hr gd => ?_
  have hu := hr.units
  have hu0 := hr.units0
  have hur := room80 hr
  have nd := sc_traced.nd
  exact (db_one (ds_ret (de_dc (own := [("one", 2)]) rfl hu0 nd (di_v (de_var 0)) (blkOk_by (N := N_traced) (sc := defScope s_traced) (by decide +kernel)) (fun _ _ _ _ _ => (dg_n (i := 2) nd rfl (by first | exact .inl rfl | exact .inr rfl))) (by decide) (fun _ _ _ _ _ => dpt_nil) (fun _ _ _ _ _ => (de_op opG_band (opd_rG _) (de_var 2) (de_var 1))) (fun _ _ _ _ _ => de_bl))))
theorem sc_shown_in : FnScope N_shown_in ["n", "marks", "part"] (defScope s_shown_in) := ⟨rfl, rfl, rfl, by decide +kernel, rfl, by decide +kernel, by decide +kernel⟩
set_option maxHeartbeats 0 in
theorem ok_shown_in (T : Facts K mg) : FnG PP w K mg base 2 T.f_shown_in T.d_shown_in ["n", "marks", "part"] (spF K mg 3 r_shown_in) := by
  have G_traced := ok_traced (w := w) (base := base) T
  have G_size_of := ok_size_of (w := w) (base := base) T
  refine fn_ok (N := N_shown_in) (k := 1) T.F_shown_in sc_shown_in rfl (body := m_shown_in) fun cdv A outer s H E hr gd => ?_
  have hu := hr.units
  have hu0 := hr.units0
  have hur := room80 hr
  have nd := sc_shown_in.nd
  exact (db_one (ds_ret (de_cmp ((opG_eq hu)) (opd_rG _) (de_callB callG_len (calld_rC _) (by rfl) T.z_len (by rfl) (da_cons (de_call (takes_of rfl rfl rfl rfl) G_traced (hr.mono (by decide)) gd (by rfl) T.g_traced T.F_traced.kp T.b_traced (da_cons (de_var 1) (da_cons (de_var 2) da_nil))) da_nil)) (de_op opG_shl (opd_rG _) de_int (de_call (takes_of rfl rfl rfl rfl) G_size_of (hr.mono (by decide)) gd (by rfl) T.g_size_of T.F_size_of.kp T.b_size_of (da_cons (de_var 2) da_nil))) (nomark _))))
theorem sc_shown_parts_in : FnScope N_shown_parts_in ["n", "marks"] (defScope s_shown_parts_in) := ⟨rfl, rfl, rfl, by decide +kernel, rfl, by decide +kernel, by decide +kernel⟩
set_option maxHeartbeats 0 in
theorem ok_shown_parts_in (T : Facts K mg) : FnG PP w K mg base 3 T.f_shown_parts_in T.d_shown_parts_in ["n", "marks"] (spF K mg 2 r_shown_parts_in) := by
  have G_shown_in := ok_shown_in (w := w) (base := base) T
  refine fn_ok (N := N_shown_parts_in) (k := 2) T.F_shown_parts_in sc_shown_parts_in rfl (body := m_shown_parts_in) fun cdv A outer s H E hr gd => ?_
  have hu := hr.units
  have hu0 := hr.units0
  have hur := room80 hr
  have nd := sc_shown_parts_in.nd
  exact (db_cons (ds_set (i := 2) nd rfl (by first | exact .inl rfl | exact .inr rfl) (de_if (dt_cmp ((opG_ne hu)) (opd_rG _) (de_var 1) de_d0 (nomark _)) (de_lst (da_cons de_int da_nil)) (de_lst da_nil)))
      (db_cons (ds_set (i := 3) nd rfl (by first | exact .inl rfl | exact .inr rfl) de_int)
      (db_cons (ds_while 2000 (passes_of rfl) (dt_cmp (opG_lt hu0) (opd_rG _) (de_var 3) (de_callB callG_len (calld_rC _) (by rfl) T.z_len (by rfl) (da_cons (de_var 2) da_nil)) (nomark _)) (db_cons (ds_set (i := 4) nd rfl (by first | exact .inl rfl | exact .inr rfl) (de_ixG (de_var 2) (de_var 3)))
      (db_cons (ds_aug (i := 3) nd rfl (by first | exact .inl rfl | exact .inr rfl) de_int iopG_add (opd_rG _))
      (db_one (ds_for (passes_of rfl) rfl (di_r1 (by rfl) T.z_range (da_cons (de_var 0) da_nil)) (dg_n (i := 5) nd rfl (by first | exact .inl rfl | exact .inr rfl)) (db_one (ds_if (dt_w (dw_and (dt_cmp (opG_gt) (opd_rG _) (de_op opG_shl (opd_rG _) de_int (de_var 5)) (de_var 4) (nomark _)) (dw_and1 (dt_truth (de_call (takes_of rfl rfl rfl rfl) G_shown_in (hr.mono (by decide)) gd (by rfl) T.g_shown_in T.F_shown_in.kp T.b_shown_in (da_cons (de_var 0) (da_cons (de_var 1) (da_cons (de_op opG_bor (opd_rG _) (de_var 4) (de_op opG_shl (opd_rG _) de_int (de_var 5))) da_nil)))))))) (db_one (ds_expr (de_meth PySem.F.plainAttrs_list PySem.F.slot_list_append PySem.F.type_list_append mt_append met_append (pv 2) (da_cons (de_op opG_bor (opd_rG _) (de_var 4) (de_op opG_shl (opd_rG _) de_int (de_var 5))) da_nil)))) db_nil)))))))
      (db_one (ds_ret (de_var 2))))))
theorem sc_dimension_in : FnScope N_dimension_in ["n", "marks"] (defScope s_dimension_in) := ⟨rfl, rfl, rfl, by decide +kernel, rfl, by decide +kernel, by decide +kernel⟩
set_option maxHeartbeats 0 in
theorem ok_dimension_in (T : Facts K mg) : FnG PP w K mg base 4 T.f_dimension_in T.d_dimension_in ["n", "marks"] (spF K mg 2 r_dimension_in) := by
  have G_shown_parts_in := ok_shown_parts_in (w := w) (base := base) T
  have G_size_of := ok_size_of (w := w) (base := base) T
  refine fn_ok (N := N_dimension_in) (k := 3) T.F_dimension_in sc_dimension_in rfl (body := m_dimension_in) fun cdv A outer s H E hr gd => ?_
  have hu := hr.units
  have hu0 := hr.units0
  have hur := room80 hr
  have nd := sc_dimension_in.nd
  exact (db_one (ds_ret (de_callB (callG_max rfl) (calld_rC _) (by rfl) T.z_max (by rfl) (da_cons (de_op opG_add (opd_rG _) (de_lc (own := [("part", 2)]) rfl nd (di_v (de_call (takes_of rfl rfl rfl rfl) G_shown_parts_in (hr.mono (by decide)) gd (by rfl) T.g_shown_parts_in T.F_shown_parts_in.kp T.b_shown_parts_in (da_cons (de_var 0) (da_cons (de_var 1) da_nil)))) (blkOk_by (N := N_dimension_in) (sc := defScope s_dimension_in) (by decide +kernel)) (fun _ _ _ _ _ => (dg_n (i := 2) nd rfl (by first | exact .inl rfl | exact .inr rfl))) (by decide) (fun _ _ _ _ _ => dpt_nil) (fun _ _ _ _ _ => (de_call takes0 G_size_of (hr.mono (by decide)) gd (by rfl) T.g_size_of T.F_size_of.kp T.b_size_of (da_cons (de_var 2) da_nil)))) (de_lst (da_cons (de_gi (by rfl) T.c_LEAST_SIZE) da_nil))) da_nil))))
theorem sc_dimension : FnScope N_dimension ["family"] (defScope s_dimension) := ⟨rfl, rfl, rfl, by decide +kernel, rfl, by decide +kernel, by decide +kernel⟩
set_option maxHeartbeats 0 in
theorem ok_dimension (T : Facts K mg) : FnG PP w K mg base 8 T.f_dimension T.d_dimension ["family"] (spF K mg 1 r_dimension) := by
  have G_require_family := ok_require_family (w := w) (base := base) T
  have G_marks_in := ok_marks_in (w := w) (base := base) T
  have G_dimension_in := ok_dimension_in (w := w) (base := base) T
  refine fn_ok (N := N_dimension) (k := 7) T.F_dimension sc_dimension rfl (body := m_dimension) fun cdv A outer s H E hr gd => ?_
  have hu := hr.units
  have hu0 := hr.units0
  have hur := room80 hr
  have nd := sc_dimension.nd
  exact (db_cons (ds_expr (de_call (takes_of rfl rfl rfl rfl) G_require_family (hr.mono (by decide)) gd (by rfl) T.g_require_family T.F_require_family.kp T.b_require_family (da_cons (de_var 0) da_nil)))
      (db_one (ds_ret (de_call (takes_of rfl rfl rfl rfl) G_dimension_in (hr.mono (by decide)) gd (by rfl) T.g_dimension_in T.F_dimension_in.kp T.b_dimension_in (da_cons (de_ixG (de_var 0) de_int) (da_cons (de_call (takes_of rfl rfl rfl rfl) G_marks_in (hr.mono (by decide)) gd (by rfl) T.g_marks_in T.F_marks_in.kp T.b_marks_in (da_cons (de_var 0) da_nil)) da_nil))))))
theorem sc_require_size : FnScope N_require_size ["d"] (defScope s_require_size) := ⟨rfl, rfl, rfl, by decide +kernel, rfl, by decide +kernel, by decide +kernel⟩
set_option maxHeartbeats 0 in
theorem ok_require_size (T : Facts K mg) : FnG PP w K mg base 4 T.f_require_size T.d_require_size ["d"] (spF K mg 1 r_require_size) := by
  have G_require_number := ok_require_number (w := w) (base := base) T
  refine fn_ok (N := N_require_size) (k := 3) T.F_require_size sc_require_size rfl (body := m_require_size) fun cdv A outer s H E hr gd => ?_
  have hu := hr.units
  have hu0 := hr.units0
  have hur := room80 hr
  have nd := sc_require_size.nd
  exact (db_one (ds_expr (de_call (takes_of rfl rfl rfl rfl) G_require_number (hr.mono (by decide)) gd (by rfl) T.g_require_number T.F_require_number.kp T.b_require_number (da_cons (de_var 0) (da_cons (de_gi (by rfl) T.c_LEAST_SIZE) (da_cons (de_gi (by rfl) T.c_MOST_SIZE) da_nil))))))
theorem sc_require_family_and_size : FnScope N_require_family_and_size ["family", "d"] (defScope s_require_family_and_size) := ⟨rfl, rfl, rfl, by decide +kernel, rfl, by decide +kernel, by decide +kernel⟩
set_option maxHeartbeats 0 in
theorem ok_require_family_and_size (T : Facts K mg) : FnG PP w K mg base 8 T.f_require_family_and_size T.d_require_family_and_size ["family", "d"] (spF K mg 2 r_require_family_and_size) := by
  have G_require_family := ok_require_family (w := w) (base := base) T
  have G_require_size := ok_require_size (w := w) (base := base) T
  refine fn_ok (N := N_require_family_and_size) (k := 7) T.F_require_family_and_size sc_require_family_and_size rfl (body := m_require_family_and_size) fun cdv A outer s H E hr gd => ?_
  have hu := hr.units
  have hu0 := hr.units0
  have hur := room80 hr
  have nd := sc_require_family_and_size.nd
  exact (db_cons (ds_expr (de_call (takes_of rfl rfl rfl rfl) G_require_family (hr.mono (by decide)) gd (by rfl) T.g_require_family T.F_require_family.kp T.b_require_family (da_cons (de_var 0) da_nil)))
      (db_one (ds_expr (de_call (takes_of rfl rfl rfl rfl) G_require_size (hr.mono (by decide)) gd (by rfl) T.g_require_size T.F_require_size.kp T.b_require_size (da_cons (de_var 1) da_nil)))))
theorem sc_choose : FnScope N_choose ["many", "few"] (defScope s_choose) := ⟨rfl, rfl, rfl, by decide +kernel, rfl, by decide +kernel, by decide +kernel⟩
set_option maxHeartbeats 0 in
theorem ok_choose (T : Facts K mg) : FnG PP w K mg base 1 T.f_choose T.d_choose ["many", "few"] (spF K mg 2 r_choose) := by
  refine fn_ok (N := N_choose) (k := 0) T.F_choose sc_choose rfl (body := m_choose) fun cdv A outer s H E hr gd => ?_
  have hu := hr.units
  have hu0 := hr.units0
  have hur := room80 hr
  have nd := sc_choose.nd
  exact (db_cons (ds_set (i := 2) nd rfl (by first | exact .inl rfl | exact .inr rfl) de_int)
      (db_cons (ds_for (passes_of rfl) rfl (di_r1 (by rfl) T.z_range (da_cons (de_var 1) da_nil)) (dg_n (i := 3) nd rfl (by first | exact .inl rfl | exact .inr rfl)) (db_one (ds_set (i := 2) nd rfl (by first | exact .inl rfl | exact .inr rfl) (de_op opG_fdiv (opd_rG _) (de_op opG_mul (opd_rG _) (de_var 2) (de_op opG_sub (opd_rG _) (de_var 0) (de_var 3))) (de_op opG_add (opd_rG _) (de_var 3) de_int)))))
      (db_one (ds_ret (de_var 2)))))
theorem sc_sauer_in : FnScope N_sauer_in ["n", "d"] (defScope s_sauer_in) := ⟨rfl, rfl, rfl, by decide +kernel, rfl, by decide +kernel, by decide +kernel⟩
set_option maxHeartbeats 0 in
theorem ok_sauer_in (T : Facts K mg) : FnG PP w K mg base 2 T.f_sauer_in T.d_sauer_in ["n", "d"] (spF K mg 2 r_sauer_in) := by
  have G_choose := ok_choose (w := w) (base := base) T
  refine fn_ok (N := N_sauer_in) (k := 1) T.F_sauer_in sc_sauer_in rfl (body := m_sauer_in) fun cdv A outer s H E hr gd => ?_
  have hu := hr.units
  have hu0 := hr.units0
  have hur := room80 hr
  have nd := sc_sauer_in.nd
  exact (db_one (ds_ret (de_callB (callG_sum rfl) (calld_rC _) (by rfl) T.z_sum (by rfl) (da_cons (de_lc (own := [("k", 2)]) rfl nd (di_r1 (by rfl) T.z_range (da_cons (de_op opG_add (opd_rG _) (de_var 1) de_int) da_nil)) (blkOk_by (N := N_sauer_in) (sc := defScope s_sauer_in) (by decide +kernel)) (fun _ _ _ _ _ => (dg_n (i := 2) nd rfl (by first | exact .inl rfl | exact .inr rfl))) (by decide) (fun _ _ _ _ _ => dpt_nil) (fun _ _ _ _ _ => (de_call takes0 G_choose (hr.mono (by decide)) gd (by rfl) T.g_choose T.F_choose.kp T.b_choose (da_cons (de_var 0) (da_cons (de_var 2) da_nil))))) da_nil))))
theorem sc_is_small_in : FnScope N_is_small_in ["n", "marks", "d"] (defScope s_is_small_in) := ⟨rfl, rfl, rfl, by decide +kernel, rfl, by decide +kernel, by decide +kernel⟩
set_option maxHeartbeats 0 in
theorem ok_is_small_in (T : Facts K mg) : FnG PP w K mg base 5 T.f_is_small_in T.d_is_small_in ["n", "marks", "d"] (spF K mg 3 r_is_small_in) := by
  have G_dimension_in := ok_dimension_in (w := w) (base := base) T
  refine fn_ok (N := N_is_small_in) (k := 4) T.F_is_small_in sc_is_small_in rfl (body := m_is_small_in) fun cdv A outer s H E hr gd => ?_
  have hu := hr.units
  have hu0 := hr.units0
  have hur := room80 hr
  have nd := sc_is_small_in.nd
  exact (db_one (ds_ret (de_cmp (opG_le) (opd_rG _) (de_call (takes_of rfl rfl rfl rfl) G_dimension_in (hr.mono (by decide)) gd (by rfl) T.g_dimension_in T.F_dimension_in.kp T.b_dimension_in (da_cons (de_var 0) (da_cons (de_var 1) da_nil))) (de_var 2) (nomark _))))
theorem sc_is_greatest_in : FnScope N_is_greatest_in ["n", "marks", "d"] (defScope s_is_greatest_in) := ⟨rfl, rfl, rfl, by decide +kernel, rfl, by decide +kernel, by decide +kernel⟩
set_option maxHeartbeats 0 in
theorem ok_is_greatest_in (T : Facts K mg) : FnG PP w K mg base 6 T.f_is_greatest_in T.d_is_greatest_in ["n", "marks", "d"] (spF K mg 3 r_is_greatest_in) := by
  have G_sauer_in := ok_sauer_in (w := w) (base := base) T
  have G_is_small_in := ok_is_small_in (w := w) (base := base) T
  refine fn_ok (N := N_is_greatest_in) (k := 5) T.F_is_greatest_in sc_is_greatest_in rfl (body := m_is_greatest_in) fun cdv A outer s H E hr gd => ?_
  have hu := hr.units
  have hu0 := hr.units0
  have hur := room80 hr
  have nd := sc_is_greatest_in.nd
  exact (db_one (ds_ret (de_and (de_cmp ((opG_eq hu)) (opd_rG _) (de_callB callG_len (calld_rC _) (by rfl) T.z_len (by rfl) (da_cons (de_var 1) da_nil)) (de_call (takes_of rfl rfl rfl rfl) G_sauer_in (hr.mono (by decide)) gd (by rfl) T.g_sauer_in T.F_sauer_in.kp T.b_sauer_in (da_cons (de_var 0) (da_cons (de_var 2) da_nil))) (nomark _)) (de_one (de_call (takes_of rfl rfl rfl rfl) G_is_small_in (hr.mono (by decide)) gd (by rfl) T.g_is_small_in T.F_is_small_in.kp T.b_is_small_in (da_cons (de_var 0) (da_cons (de_var 1) (da_cons (de_var 2) da_nil))))))))
theorem sc_is_greatest : FnScope N_is_greatest ["family", "d"] (defScope s_is_greatest) := ⟨rfl, rfl, rfl, by decide +kernel, rfl, by decide +kernel, by decide +kernel⟩
set_option maxHeartbeats 0 in
theorem ok_is_greatest (T : Facts K mg) : FnG PP w K mg base 9 T.f_is_greatest T.d_is_greatest ["family", "d"] (spF K mg 2 r_is_greatest) := by
  have G_require_family_and_size := ok_require_family_and_size (w := w) (base := base) T
  have G_marks_in := ok_marks_in (w := w) (base := base) T
  have G_is_greatest_in := ok_is_greatest_in (w := w) (base := base) T
  refine fn_ok (N := N_is_greatest) (k := 8) T.F_is_greatest sc_is_greatest rfl (body := m_is_greatest) fun cdv A outer s H E hr gd => ?_
  have hu := hr.units
  have hu0 := hr.units0
  have hur := room80 hr
  have nd := sc_is_greatest.nd
  exact (db_cons (ds_expr (de_call (takes_of rfl rfl rfl rfl) G_require_family_and_size (hr.mono (by decide)) gd (by rfl) T.g_require_family_and_size T.F_require_family_and_size.kp T.b_require_family_and_size (da_cons (de_var 0) (da_cons (de_var 1) da_nil))))
      (db_one (ds_ret (de_call (takes_of rfl rfl rfl rfl) G_is_greatest_in (hr.mono (by decide)) gd (by rfl) T.g_is_greatest_in T.F_is_greatest_in.kp T.b_is_greatest_in (da_cons (de_ixG (de_var 0) de_int) (da_cons (de_call (takes_of rfl rfl rfl rfl) G_marks_in (hr.mono (by decide)) gd (by rfl) T.g_marks_in T.F_marks_in.kp T.b_marks_in (da_cons (de_var 0) da_nil)) (da_cons (de_var 1) da_nil)))))))
theorem sc_is_extremal_in : FnScope N_is_extremal_in ["n", "marks"] (defScope s_is_extremal_in) := ⟨rfl, rfl, rfl, by decide +kernel, rfl, by decide +kernel, by decide +kernel⟩
set_option maxHeartbeats 0 in
theorem ok_is_extremal_in (T : Facts K mg) : FnG PP w K mg base 4 T.f_is_extremal_in T.d_is_extremal_in ["n", "marks"] (spF K mg 2 r_is_extremal_in) := by
  have G_shown_parts_in := ok_shown_parts_in (w := w) (base := base) T
  refine fn_ok (N := N_is_extremal_in) (k := 3) T.F_is_extremal_in sc_is_extremal_in rfl (body := m_is_extremal_in) fun cdv A outer s H E hr gd => ?_
  have hu := hr.units
  have hu0 := hr.units0
  have hur := room80 hr
  have nd := sc_is_extremal_in.nd
  exact (db_one (ds_ret (de_cmp ((opG_eq hu)) (opd_rG _) (de_callB callG_len (calld_rC _) (by rfl) T.z_len (by rfl) (da_cons (de_call (takes_of rfl rfl rfl rfl) G_shown_parts_in (hr.mono (by decide)) gd (by rfl) T.g_shown_parts_in T.F_shown_parts_in.kp T.b_shown_parts_in (da_cons (de_var 0) (da_cons (de_var 1) da_nil))) da_nil)) (de_callB callG_len (calld_rC _) (by rfl) T.z_len (by rfl) (da_cons (de_var 1) da_nil)) (nomark _))))
theorem sc_is_extremal : FnScope N_is_extremal ["family"] (defScope s_is_extremal) := ⟨rfl, rfl, rfl, by decide +kernel, rfl, by decide +kernel, by decide +kernel⟩
set_option maxHeartbeats 0 in
theorem ok_is_extremal (T : Facts K mg) : FnG PP w K mg base 8 T.f_is_extremal T.d_is_extremal ["family"] (spF K mg 1 r_is_extremal) := by
  have G_require_family := ok_require_family (w := w) (base := base) T
  have G_marks_in := ok_marks_in (w := w) (base := base) T
  have G_is_extremal_in := ok_is_extremal_in (w := w) (base := base) T
  refine fn_ok (N := N_is_extremal) (k := 7) T.F_is_extremal sc_is_extremal rfl (body := m_is_extremal) fun cdv A outer s H E hr gd => ?_
  have hu := hr.units
  have hu0 := hr.units0
  have hur := room80 hr
  have nd := sc_is_extremal.nd
  exact (db_cons (ds_expr (de_call (takes_of rfl rfl rfl rfl) G_require_family (hr.mono (by decide)) gd (by rfl) T.g_require_family T.F_require_family.kp T.b_require_family (da_cons (de_var 0) da_nil)))
      (db_one (ds_ret (de_call (takes_of rfl rfl rfl rfl) G_is_extremal_in (hr.mono (by decide)) gd (by rfl) T.g_is_extremal_in T.F_is_extremal_in.kp T.b_is_extremal_in (da_cons (de_ixG (de_var 0) de_int) (da_cons (de_call (takes_of rfl rfl rfl rfl) G_marks_in (hr.mono (by decide)) gd (by rfl) T.g_marks_in T.F_marks_in.kp T.b_marks_in (da_cons (de_var 0) da_nil)) da_nil))))))
theorem sc_shown_parts : FnScope N_shown_parts ["family"] (defScope s_shown_parts) := ⟨rfl, rfl, rfl, by decide +kernel, rfl, by decide +kernel, by decide +kernel⟩
set_option maxHeartbeats 0 in
theorem ok_shown_parts (T : Facts K mg) : FnG PP w K mg base 8 T.f_shown_parts T.d_shown_parts ["family"] (spF K mg 1 r_shown_parts) := by
  have G_require_family := ok_require_family (w := w) (base := base) T
  have G_marks_in := ok_marks_in (w := w) (base := base) T
  have G_shown_parts_in := ok_shown_parts_in (w := w) (base := base) T
  have G_lot_of := ok_lot_of (w := w) (base := base) T
  refine fn_ok (N := N_shown_parts) (k := 7) T.F_shown_parts sc_shown_parts rfl (body := m_shown_parts) fun cdv A outer s H E hr gd => ?_
  have hu := hr.units
  have hu0 := hr.units0
  have hur := room80 hr
  have nd := sc_shown_parts.nd
  exact (db_cons (ds_expr (de_call (takes_of rfl rfl rfl rfl) G_require_family (hr.mono (by decide)) gd (by rfl) T.g_require_family T.F_require_family.kp T.b_require_family (da_cons (de_var 0) da_nil)))
      (db_one (ds_ret (de_callTy callG_tuple (calld_rC _) (by rfl) T.z_tuple (by rfl) (da_cons (de_callB (callG_sorted rfl hu) (calld_rC _) (by rfl) T.z_sorted (by rfl) (da_cons (de_lc (own := [("part", 1)]) rfl nd (di_v (de_call (takes_of rfl rfl rfl rfl) G_shown_parts_in (hr.mono (by decide)) gd (by rfl) T.g_shown_parts_in T.F_shown_parts_in.kp T.b_shown_parts_in (da_cons (de_ixG (de_var 0) de_int) (da_cons (de_call (takes_of rfl rfl rfl rfl) G_marks_in (hr.mono (by decide)) gd (by rfl) T.g_marks_in T.F_marks_in.kp T.b_marks_in (da_cons (de_var 0) da_nil)) da_nil)))) (blkOk_by (N := N_shown_parts) (sc := defScope s_shown_parts) (by decide +kernel)) (fun _ _ _ _ _ => (dg_n (i := 1) nd rfl (by first | exact .inl rfl | exact .inr rfl))) (by decide) (fun _ _ _ _ _ => dpt_nil) (fun _ _ _ _ _ => (de_call takes0 G_lot_of (hr.mono (by decide)) gd (by rfl) T.g_lot_of T.F_lot_of.kp T.b_lot_of (da_cons (de_var 1) da_nil)))) da_nil)) da_nil)))))
theorem sc__law_shown_right : FnScope N__law_shown_right ["n", "k"] (defScope s__law_shown_right) := ⟨rfl, rfl, rfl, by decide +kernel, rfl, by decide +kernel, by decide +kernel⟩
set_option maxHeartbeats 0 in
theorem ok__law_shown_right (T : Facts K mg) : FnG PP w K mg base 10 T.f__law_shown_right T.d__law_shown_right ["n", "k"] (spF K mg 2 r__law_shown_right) := by
  have G_thresholds := ok_thresholds (w := w) (base := base) T
  have G_dimension := ok_dimension (w := w) (base := base) T
  have G_stretches := ok_stretches (w := w) (base := base) T
  have G_up_to_changes := ok_up_to_changes (w := w) (base := base) T
  have G_at_most := ok_at_most (w := w) (base := base) T
  have G_is_greatest := ok_is_greatest (w := w) (base := base) T
  have G_is_extremal := ok_is_extremal (w := w) (base := base) T
  have G_just := ok_just (w := w) (base := base) T
  have G_shown_parts := ok_shown_parts (w := w) (base := base) T
  have G__law_all_lots := ok__law_all_lots (w := w) (base := base) T
  refine fn_ok (N := N__law_shown_right) (k := 9) T.F__law_shown_right sc__law_shown_right rfl (body := m__law_shown_right) fun cdv A outer s H E hr gd => ?_
  have hu := hr.units
  have hu0 := hr.units0
  have hur := room80 hr
  have nd := sc__law_shown_right.nd
  exact (db_cons (ds_set (i := 2) nd rfl (by first | exact .inl rfl | exact .inr rfl) (de_lst (da_cons (de_call (takes_of rfl rfl rfl rfl) G_dimension (hr.mono (by decide)) gd (by rfl) T.g_dimension T.F_dimension.kp T.b_dimension (da_cons (de_call (takes_of rfl rfl rfl rfl) G_thresholds (hr.mono (by decide)) gd (by rfl) T.g_thresholds T.F_thresholds.kp T.b_thresholds (da_cons (de_var 0) da_nil)) da_nil)) (da_cons (de_call (takes_of rfl rfl rfl rfl) G_dimension (hr.mono (by decide)) gd (by rfl) T.g_dimension T.F_dimension.kp T.b_dimension (da_cons (de_call (takes_of rfl rfl rfl rfl) G_stretches (hr.mono (by decide)) gd (by rfl) T.g_stretches T.F_stretches.kp T.b_stretches (da_cons (de_var 0) da_nil)) da_nil)) (da_cons (de_call (takes_of rfl rfl rfl rfl) G_dimension (hr.mono (by decide)) gd (by rfl) T.g_dimension T.F_dimension.kp T.b_dimension (da_cons (de_call (takes_of rfl rfl rfl rfl) G_up_to_changes (hr.mono (by decide)) gd (by rfl) T.g_up_to_changes T.F_up_to_changes.kp T.b_up_to_changes (da_cons (de_var 0) (da_cons (de_var 1) da_nil))) da_nil)) (da_cons (de_call (takes_of rfl rfl rfl rfl) G_dimension (hr.mono (by decide)) gd (by rfl) T.g_dimension T.F_dimension.kp T.b_dimension (da_cons (de_call (takes_of rfl rfl rfl rfl) G_at_most (hr.mono (by decide)) gd (by rfl) T.g_at_most T.F_at_most.kp T.b_at_most (da_cons (de_var 0) (da_cons (de_var 1) da_nil))) da_nil)) da_nil))))))
      (db_cons (ds_if (dt_cmp ((opG_ne hu)) (opd_rG _) (de_var 2) (de_lst (da_cons de_int (da_cons (de_callB (callG_min rfl) (calld_rC _) (by rfl) T.z_min (by rfl) (da_cons (de_var 0) (da_cons de_int da_nil))) (da_cons (de_callB (callG_min rfl) (calld_rC _) (by rfl) T.z_min (by rfl) (da_cons (de_var 0) (da_cons (de_op opG_add (opd_rG _) (de_var 1) de_int) da_nil))) (da_cons (de_var 1) da_nil))))) (nomark _)) (db_one (ds_ret de_bl)) db_nil)
      (db_cons (ds_set (i := 2) nd rfl (by first | exact .inl rfl | exact .inr rfl) (de_lst (da_cons (de_call (takes_of rfl rfl rfl rfl) G_is_greatest (hr.mono (by decide)) gd (by rfl) T.g_is_greatest T.F_is_greatest.kp T.b_is_greatest (da_cons (de_call (takes_of rfl rfl rfl rfl) G_thresholds (hr.mono (by decide)) gd (by rfl) T.g_thresholds T.F_thresholds.kp T.b_thresholds (da_cons (de_var 0) da_nil)) (da_cons de_int da_nil))) (da_cons (de_call (takes_of rfl rfl rfl rfl) G_is_greatest (hr.mono (by decide)) gd (by rfl) T.g_is_greatest T.F_is_greatest.kp T.b_is_greatest (da_cons (de_call (takes_of rfl rfl rfl rfl) G_stretches (hr.mono (by decide)) gd (by rfl) T.g_stretches T.F_stretches.kp T.b_stretches (da_cons (de_var 0) da_nil)) (da_cons de_int da_nil))) (da_cons (de_call (takes_of rfl rfl rfl rfl) G_is_greatest (hr.mono (by decide)) gd (by rfl) T.g_is_greatest T.F_is_greatest.kp T.b_is_greatest (da_cons (de_call (takes_of rfl rfl rfl rfl) G_at_most (hr.mono (by decide)) gd (by rfl) T.g_at_most T.F_at_most.kp T.b_at_most (da_cons (de_var 0) (da_cons (de_var 1) da_nil))) (da_cons (de_var 1) da_nil))) da_nil)))))
      (db_cons (ds_set (i := 2) nd rfl (by first | exact .inl rfl | exact .inr rfl) (de_op opG_add (opd_rG _) (de_var 2) (de_lst (da_cons (de_call (takes_of rfl rfl rfl rfl) G_is_extremal (hr.mono (by decide)) gd (by rfl) T.g_is_extremal T.F_is_extremal.kp T.b_is_extremal (da_cons (de_call (takes_of rfl rfl rfl rfl) G_thresholds (hr.mono (by decide)) gd (by rfl) T.g_thresholds T.F_thresholds.kp T.b_thresholds (da_cons (de_var 0) da_nil)) da_nil)) (da_cons (de_call (takes_of rfl rfl rfl rfl) G_is_extremal (hr.mono (by decide)) gd (by rfl) T.g_is_extremal T.F_is_extremal.kp T.b_is_extremal (da_cons (de_call (takes_of rfl rfl rfl rfl) G_stretches (hr.mono (by decide)) gd (by rfl) T.g_stretches T.F_stretches.kp T.b_stretches (da_cons (de_var 0) da_nil)) da_nil)) (da_cons (de_call (takes_of rfl rfl rfl rfl) G_is_extremal (hr.mono (by decide)) gd (by rfl) T.g_is_extremal T.F_is_extremal.kp T.b_is_extremal (da_cons (de_call (takes_of rfl rfl rfl rfl) G_at_most (hr.mono (by decide)) gd (by rfl) T.g_at_most T.F_at_most.kp T.b_at_most (da_cons (de_var 0) (da_cons (de_var 1) da_nil))) da_nil)) da_nil))))))
      (db_cons (ds_if (dt_cmp ((opG_ne hu)) (opd_rG _) (de_var 2) (de_op opG_mul (opd_rG _) (de_lst (da_cons de_bl da_nil)) de_int) (nomark _)) (db_one (ds_ret de_bl)) db_nil)
      (db_cons (ds_set (i := 3) nd rfl (by first | exact .inl rfl | exact .inr rfl) (de_callB (callG_min rfl) (calld_rC _) (by rfl) T.z_min (by rfl) (da_cons (de_var 1) (da_cons (de_op opG_sub (opd_rG _) (de_var 0) (de_var 1)) da_nil))))
      (db_one (ds_ret (de_cmp ((opG_eq hu)) (opd_rG _) (de_call (takes_of rfl rfl rfl rfl) G_shown_parts (hr.mono (by decide)) gd (by rfl) T.g_shown_parts T.F_shown_parts.kp T.b_shown_parts (da_cons (de_call (takes_of rfl rfl rfl rfl) G_just (hr.mono (by decide)) gd (by rfl) T.g_just T.F_just.kp T.b_just (da_cons (de_var 0) (da_cons (de_var 1) da_nil))) da_nil)) (de_callTy callG_tuple (calld_rC _) (by rfl) T.z_tuple (by rfl) (da_cons (de_lc (own := [("part", 4)]) rfl nd (di_v (de_call (takes_of rfl rfl rfl rfl) G__law_all_lots (hr.mono (by decide)) gd (by rfl) T.g__law_all_lots T.F__law_all_lots.kp T.b__law_all_lots (da_cons (de_var 0) da_nil))) (blkOk_by (N := N__law_shown_right) (sc := defScope s__law_shown_right) (by decide +kernel)) (fun _ _ _ _ _ => (dg_n (i := 4) nd rfl (by first | exact .inl rfl | exact .inr rfl))) (by decide) (fun _ _ _ _ _ => (dpt_one (dt_cmp (opG_le) (opd_rG _) (de_callB callG_len (calld_rC _) (by rfl) T.z_len (by rfl) (da_cons (de_var 4) da_nil)) (de_var 3) (nomark _)))) (fun _ _ _ _ _ => (de_var 4))) da_nil)) (nomark _))))))))))
theorem sc_law : FnScope N_law ["script"] (defScope s_law) := ⟨rfl, rfl, rfl, by decide +kernel, rfl, by decide +kernel, by decide +kernel⟩
set_option maxHeartbeats 0 in
theorem ok_law (T : Facts K mg) : FnG PP w K mg base 11 T.f_law T.d_law ["script"] (spF K mg 1 r_law) := by
  have G__law_dice := ok__law_dice (w := w) (base := base) T
  have G__law_roll := ok__law_roll (w := w) (base := base) T
  have G__law_lots_right := ok__law_lots_right (w := w) (base := base) T
  have G__law_shown_right := ok__law_shown_right (w := w) (base := base) T
  have G_thresholds := ok_thresholds (w := w) (base := base) T
  have G_stretches := ok_stretches (w := w) (base := base) T
  have G_up_to_changes := ok_up_to_changes (w := w) (base := base) T
  have G_at_most := ok_at_most (w := w) (base := base) T
  have G_just := ok_just (w := w) (base := base) T
  refine fn_ok (N := N_law) (k := 10) T.F_law sc_law rfl (body := m_law) fun cdv A outer s H E hr gd => ?_
  have hu := hr.units
  have hu0 := hr.units0
  have hur := room80 hr
  have nd := sc_law.nd
  exact (db_cons (ds_for (passes_of rfl) rfl (di_r1 (by rfl) T.z_range (da_cons (de_callB (callG_max rfl) (calld_rC _) (by rfl) T.z_max (by rfl) (da_cons de_int (da_cons (de_callB (callG_min rfl) (calld_rC _) (by rfl) T.z_min (by rfl) (da_cons de_int (da_cons (de_callB callG_len (calld_rC _) (by rfl) T.z_len (by rfl) (da_cons (de_var 0) da_nil)) da_nil))) da_nil))) da_nil)) (dg_n (i := 1) nd rfl (by first | exact .inl rfl | exact .inr rfl)) (db_cons (ds_set (i := 2) nd rfl (by first | exact .inl rfl | exact .inr rfl) (de_call (takes_of rfl rfl rfl rfl) G__law_dice (hr.mono (by decide)) gd (by rfl) T.g__law_dice T.F__law_dice.kp T.b__law_dice (da_cons (de_var 0) (da_cons (de_var 1) da_nil))))
      (db_cons (ds_set (i := 3) nd rfl (by first | exact .inl rfl | exact .inr rfl) (de_op opG_add (opd_rG _) de_int (de_callI (takes_of rfl rfl rfl rfl) G__law_roll (hr.mono (by decide)) gd (by rfl) T.g__law_roll T.F__law_roll.kp T.b__law_roll (da_cons (de_var 2) (da_cons de_int da_nil)))))
      (db_cons (ds_if (dt_not (dt_truth (de_call (takes_of rfl rfl rfl rfl) G__law_lots_right (hr.mono (by decide)) gd (by rfl) T.g__law_lots_right T.F__law_lots_right.kp T.b__law_lots_right (da_cons (de_var 3) (da_cons (de_callI (takes_of rfl rfl rfl rfl) G__law_roll (hr.mono (by decide)) gd (by rfl) T.g__law_roll T.F__law_roll.kp T.b__law_roll (da_cons (de_var 2) (da_cons (de_op opG_add (opd_rG _) (de_var 3) de_int) da_nil))) da_nil))))) (db_one (ds_ret de_bl)) db_nil)
      (db_cons (ds_set (i := 3) nd rfl (by first | exact .inl rfl | exact .inr rfl) (de_op opG_add (opd_rG _) de_int (de_callI (takes_of rfl rfl rfl rfl) G__law_roll (hr.mono (by decide)) gd (by rfl) T.g__law_roll T.F__law_roll.kp T.b__law_roll (da_cons (de_var 2) (da_cons de_int da_nil)))))
      (db_one (ds_if (dt_not (dt_truth (de_call (takes_of rfl rfl rfl rfl) G__law_shown_right (hr.mono (by decide)) gd (by rfl) T.g__law_shown_right T.F__law_shown_right.kp T.b__law_shown_right (da_cons (de_var 3) (da_cons (de_callI (takes_of rfl rfl rfl rfl) G__law_roll (hr.mono (by decide)) gd (by rfl) T.g__law_roll T.F__law_roll.kp T.b__law_roll (da_cons (de_var 2) (da_cons (de_op opG_add (opd_rG _) (de_var 3) de_int) da_nil))) da_nil))))) (db_one (ds_ret de_bl)) db_nil)))))))
      (db_cons (ds_set (i := 4) nd rfl (by first | exact .inl rfl | exact .inr rfl) (de_tup (da_cons de_int (da_cons (de_tup (da_cons (de_tup da_nil) (da_cons (de_tup (da_cons de_int da_nil)) (da_cons (de_tup (da_cons de_int (da_cons de_int da_nil))) (da_cons (de_tup (da_cons de_int da_nil)) da_nil))))) da_nil))))
      (db_cons (ds_set (i := 5) nd rfl (by first | exact .inl rfl | exact .inr rfl) (de_lst (da_cons (de_call (takes_of rfl rfl rfl rfl) G_thresholds (hr.mono (by decide)) gd (by rfl) T.g_thresholds T.F_thresholds.kp T.b_thresholds (da_cons de_int da_nil)) (da_cons (de_call (takes_of rfl rfl rfl rfl) G_stretches (hr.mono (by decide)) gd (by rfl) T.g_stretches T.F_stretches.kp T.b_stretches (da_cons de_int da_nil)) (da_cons (de_call (takes_of rfl rfl rfl rfl) G_up_to_changes (hr.mono (by decide)) gd (by rfl) T.g_up_to_changes T.F_up_to_changes.kp T.b_up_to_changes (da_cons de_int (da_cons de_int da_nil))) (da_cons (de_call (takes_of rfl rfl rfl rfl) G_up_to_changes (hr.mono (by decide)) gd (by rfl) T.g_up_to_changes T.F_up_to_changes.kp T.b_up_to_changes (da_cons de_int (da_cons de_int da_nil))) (da_cons (de_call (takes_of rfl rfl rfl rfl) G_at_most (hr.mono (by decide)) gd (by rfl) T.g_at_most T.F_at_most.kp T.b_at_most (da_cons de_int (da_cons de_int da_nil))) (da_cons (de_call (takes_of rfl rfl rfl rfl) G_just (hr.mono (by decide)) gd (by rfl) T.g_just T.F_just.kp T.b_just (da_cons de_int (da_cons de_int da_nil))) da_nil))))))))
      (db_cons (ds_set (i := 5) nd rfl (by first | exact .inl rfl | exact .inr rfl) (de_op opG_add (opd_rG _) (de_var 5) (de_lst (da_cons (de_call (takes_of rfl rfl rfl rfl) G_thresholds (hr.mono (by decide)) gd (by rfl) T.g_thresholds T.F_thresholds.kp T.b_thresholds (da_cons de_int da_nil)) (da_cons (de_call (takes_of rfl rfl rfl rfl) G_stretches (hr.mono (by decide)) gd (by rfl) T.g_stretches T.F_stretches.kp T.b_stretches (da_cons de_int da_nil)) (da_cons (de_call (takes_of rfl rfl rfl rfl) G_up_to_changes (hr.mono (by decide)) gd (by rfl) T.g_up_to_changes T.F_up_to_changes.kp T.b_up_to_changes (da_cons de_int (da_cons de_int da_nil))) (da_cons (de_call (takes_of rfl rfl rfl rfl) G_just (hr.mono (by decide)) gd (by rfl) T.g_just T.F_just.kp T.b_just (da_cons de_int (da_cons de_int da_nil))) (da_cons (de_call (takes_of rfl rfl rfl rfl) G_at_most (hr.mono (by decide)) gd (by rfl) T.g_at_most T.F_at_most.kp T.b_at_most (da_cons de_int (da_cons de_int da_nil))) (da_cons (de_callB callG_len (calld_rC _) (by rfl) T.z_len (by rfl) (da_cons (de_ixG (de_call (takes_of rfl rfl rfl rfl) G_at_most (hr.mono (by decide)) gd (by rfl) T.g_at_most T.F_at_most.kp T.b_at_most (da_cons de_int (da_cons de_int da_nil))) de_int) da_nil)) da_nil)))))))))
      (db_cons (ds_set (i := 6) nd rfl (by first | exact .inl rfl | exact .inr rfl) (de_lst (da_cons (de_tup (da_cons de_int (da_cons (de_tup (da_cons (de_tup da_nil) (da_cons (de_tup (da_cons de_int da_nil)) (da_cons (de_tup (da_cons de_int (da_cons de_int da_nil))) da_nil)))) da_nil))) (da_cons (de_var 4) (da_cons (de_tup (da_cons de_int (da_cons (de_tup (da_cons (de_tup da_nil) (da_cons (de_tup (da_cons de_int (da_cons de_int (da_cons de_int da_nil)))) da_nil))) da_nil))) (da_cons (de_var 4) (da_cons (de_tup (da_cons de_int (da_cons (de_tup (da_cons (de_tup da_nil) (da_cons (de_tup (da_cons de_int da_nil)) (da_cons (de_tup (da_cons de_int da_nil)) da_nil)))) da_nil))) da_nil)))))))
      (db_cons (ds_set (i := 6) nd rfl (by first | exact .inl rfl | exact .inr rfl) (de_op opG_add (opd_rG _) (de_op opG_add (opd_rG _) (de_op opG_add (opd_rG _) (de_var 6) (de_lst (da_cons (de_tup (da_cons de_int (da_cons (de_tup (da_cons (de_tup (da_cons de_int (da_cons de_int da_nil))) (da_cons (de_tup (da_cons de_int (da_cons de_int da_nil))) (da_cons (de_tup (da_cons de_int (da_cons de_int da_nil))) da_nil)))) da_nil))) da_nil))) (de_op opG_mul (opd_rG _) (de_lst (da_cons (de_tup (da_cons de_int (da_cons (de_tup (da_cons (de_tup da_nil) (da_cons (de_tup (da_cons de_int da_nil)) da_nil))) da_nil))) da_nil)) de_int)) (de_lst (da_cons (de_tup (da_cons de_int (da_cons (de_tup (da_cons (de_tup da_nil) da_nil)) da_nil))) (da_cons (de_tup (da_cons de_int (da_cons (de_tup (da_cons (de_tup da_nil) da_nil)) da_nil))) (da_cons de_int da_nil))))))
      (db_one (ds_ret (de_cmp ((opG_eq hu)) (opd_rG _) (de_var 5) (de_var 6) (nomark _))))))))))
end

end LW
end
section
namespace LW
open PySem PySem.Spec PyProof.Rows L2 DL
theorem log2_small {i : Int} {k : Nat} (h : i.natAbs < 2 ^ k) (hk : 0 < k) : i.natAbs.log2 < k := PySem.Flt.log2_lt_of hk h
theorem roll_pos (a b c t : Int) (ha : 0 < a) (ht : 1 ≤ t ∧ t ≤ 16) : r__law_roll (.lst [.int a, .int b, .int c]) [.int t] = .ok (.fz (.int (a.fmod t)), .lst [.int (a / t), .int b, .int c]) := by
  have h1 : t ≠ 0 := by omega
  have h2 : 0 < t := by omega
  have h3 : t.natAbs.log2 < 9000 := by
    have := log2_small (i := t) (k := 5) (by omega) (by decide)
    omega
  simp [r__law_roll, runFI, m__law_roll, entryI, entry, mSeq, mNx, mIfS, mTestB, mOp, mIx, mC, mVar, mk, peek, fin2, fin2F, gGt, gI, gIx, L2.atI, ixN, Res.bind, thenS, mSet, nrm, putN, mCB, finN, peeks, mCons, mNil, gInt, gMod, mPut, frz1, isOw, mPutF, gFdiv, mRet, ha, h1, h2, h3]
theorem roll_neg (a b c t : Int) (ha : ¬ 0 < a) (hb : b.natAbs < 2 ^ 100) (hc : 0 ≤ c ∧ c < 1000) (ht : 1 ≤ t ∧ t ≤ 16) : ∃ r, r__law_roll (.lst [.int a, .int b, .int c]) [.int t] = .ok (.fz (.int r), .lst [.int a, .int b, .int (c + 1)]) ∧ 0 ≤ r ∧ r < t := by
  have h1 : t ≠ 0 := by omega
  have h2 : 0 < t := by omega
  have g1 : Nat.log2 15486209 + (c + 1).natAbs.log2 < 1000000 := by
    have := log2_small (i := c + 1) (k := 11) (by omega) (by decide)
    have : Nat.log2 15486209 < 24 := by decide +kernel
    omega
  have bnd : ∀ x m : Int, 0 < m → 0 ≤ x.fmod m ∧ x.fmod m < m := fun x m hm => ⟨Int.fmod_nonneg_of_pos _ hm, Int.fmod_lt_of_pos _ hm⟩
  obtain ⟨o1, o2⟩ := bnd (b + 15486209 * (c + 1)) 2305843009213693951 (by decide)
  generalize hone : (b + 15486209 * (c + 1)).fmod 2305843009213693951 = one at o1 o2
  have g2 : one.natAbs.log2 + one.natAbs.log2 < 1000000 := by
    have := log2_small (i := one) (k := 64) (by omega) (by decide)
    omega
  have g3 : Nat.log2 199 + (c + 1).natAbs.log2 < 1000000 := by
    have := log2_small (i := c + 1) (k := 11) (by omega) (by decide)
    have : Nat.log2 199 < 24 := by decide +kernel
    omega
  obtain ⟨p1, p2⟩ := bnd (one * one + 199 * (c + 1)) 2305843009213693907 (by decide)
  generalize htwo : (one * one + 199 * (c + 1)).fmod 2305843009213693907 = two at p1 p2
  have g4 : two.natAbs.log2 + Nat.log2 7368751 < 1000000 := by
    have := log2_small (i := two) (k := 64) (by omega) (by decide)
    have : Nat.log2 7368751 < 24 := by decide +kernel
    omega
  have g5 : Nat.log2 65536 < 9000 := by decide +kernel
  obtain ⟨q1, q2⟩ := bnd ((two * 7368751 + one) / 65536) t h2
  refine ⟨((two * 7368751 + one) / 65536).fmod t, ?_, q1, q2⟩
  simp [r__law_roll, runFI, m__law_roll, entryI, entry, mSeq, mNx, mIfS, mTestB, mOp, mIx, mC, mVar, mk, peek, fin2, fin2F, gGt, gI, gIx, L2.atI, ixN, Res.bind, thenS, mSet, nrm, putN, mCB, finN, peeks, mCons, mNil, gInt, gMod, mPut, frz1, isOw, mPutF, gFdiv, gAdd, gMul, mNx, mRet, ha, h1, h2, g1, g2, g3, g4, g5, hone, htwo, -Int.not_lt]
end LW
end
section
namespace LW
open PySem PySem.Spec PyProof.Rows L2 DL
theorem pw17 : mOp gPow (mC (.int 10)) (mC (.int 17)) = fun ρ => .ok (.fz (.int 100000000000000000), ρ) := by funext ρ; rfl
theorem pw60 : mOp gPow (mC (.int 10)) (mC (.int 60)) = fun ρ => .ok (.fz (.int 1000000000000000000000000000000000000000000000000000000000000), ρ) := by funext ρ; rfl
theorem pw120 : mOp gMul (mOp gPow (mC (.int 10)) (mC (.int 60))) (mOp gPow (mC (.int 10)) (mC (.int 60))) = fun ρ => .ok (.fz (.int 1000000000000000000000000000000000000000000000000000000000000000000000000000000000000000000000000000000000000000000000000), ρ) := by
  rw [pw60]
  funext ρ
  simp only [mOp, Res.bind, fin2, peek]
  have h : gMul (.int 1000000000000000000000000000000000000000000000000000000000000) (.int 1000000000000000000000000000000000000000000000000000000000000) = some (.int 1000000000000000000000000000000000000000000000000000000000000000000000000000000000000000000000000000000000000000000000000) := by
    unfold gMul
    simp only
    rw [if_pos (by decide +kernel)]
    rfl
  rw [h]
  rfl
theorem dice_tail (ns : List Int) (spot : Nat) (hs : spot < 3) (cell : Int)
    (hc : mIf (mTestB (mOp gLt (mVar 1) (mCB gLen (mCons (mVar 0) (mNil))))) (mCB gInt (mCons (mIx gIx (mVar 0) (mVar 1)) (mNil))) (mOp gAdd (mOp gMul (mC (.int 97)) (mVar 1)) (mC (.int 43))) (entry 4 [.scr ns, .int spot]) = .ok (.fz (.int cell), entry 4 [.scr ns, .int spot])) :
    ∃ a b, r__law_dice [.scr ns, .int spot] = .ok (.ow (.lst [.int a, .int b, .int 0])) ∧ 0 ≤ a ∧ b.natAbs < 2 ^ 100 := by
  have bnd : ∀ x m : Int, 0 < m → 0 ≤ x.fmod m ∧ x.fmod m < m := fun x m hm => ⟨Int.fmod_nonneg_of_pos _ hm, Int.fmod_lt_of_pos _ hm⟩
  obtain ⟨o1, o2⟩ := bnd (if cell < 0 then -cell else cell) 1152921504606846737 (by decide)
  generalize hx : (if cell < 0 then -cell else cell).fmod 1152921504606846737 = x at o1 o2
  have g1 : x.natAbs.log2 + Nat.log2 37 < 1000000 := by
    have := log2_small (i := x) (k := 64) (by omega) (by decide)
    have : Nat.log2 37 < 24 := by decide +kernel
    omega
  have g2 : Nat.log2 859 + Nat.log2 spot < 1000000 := by
    have := log2_small (i := (spot : Int)) (k := 2) (by omega) (by decide)
    have : Nat.log2 859 < 24 := by decide +kernel
    have e : ((spot : Int)).natAbs.log2 = spot.log2 := rfl
    omega
  have g3 : Nat.log2 31 + (if cell < 0 then (1 : Int) else 0).natAbs.log2 < 1000000 := by
    have : Nat.log2 31 < 24 := by decide +kernel
    split
    · have : (1 : Int).natAbs.log2 = 0 := by decide +kernel
      omega
    · have : (0 : Int).natAbs.log2 = 0 := by decide +kernel
      omega
  obtain ⟨p1, p2⟩ := bnd (if (if cell < 0 then -cell else cell) - 100000000000000000 > 0 then (if cell < 0 then -cell else cell) - 100000000000000000 else 0) 1000000000000000000000000000000000000000000000000000000000000000000000000000000000000000000000000000000000000000000000000 (by decide)
  refine ⟨_, x * 37 + 859 * spot + 31 * (if cell < 0 then 1 else 0) + 17, ?_, p1, ?_⟩
  · unfold r__law_dice runF m__law_dice
    rw [pw120, pw17]
    simp only [mSeq, mSet, hc, Res.bind]
    simp [entry, mSeq, mSet, mOp, mC, mVar, mk, peek, fin2, Res.bind, thenS, nrm, putN, mCB, finN, peeks, mCons, mNil, gInt, gMod, gMul, gAdd, DL.gSub, gI, gAbs, gMax, gLt, mRet, mLst, frzs, frz1, hx, g1, g2, g3]
  · split <;> omega
theorem dice_ok (ns : List Int) (spot : Nat) (hs : spot < 3) : ∃ a b, r__law_dice [.scr ns, .int spot] = .ok (.ow (.lst [.int a, .int b, .int 0])) ∧ 0 ≤ a ∧ b.natAbs < 2 ^ 100 := by
  by_cases h : spot < ns.length
  · refine dice_tail ns spot hs ns[spot] ?_
    have h1 : (spot : Int) < (ns.length : Int) := by omega
    have h2 : ns[spot]? = some ns[spot] := List.getElem?_eq_getElem h
    simp [mIf, mTestB, mOp, mVar, mCB, mCons, mNil, finN, peeks, peek, gLen, gLt, fin2, mk, entry, Res.bind, mIx, fin2F, gIx, L2.atI, ixN, h, gInt]
  · refine dice_tail ns spot hs (97 * spot + 43) ?_
    have h1 : ¬ (spot : Int) < (ns.length : Int) := by omega
    have g : Nat.log2 97 + Nat.log2 spot < 1000000 := by
      have := log2_small (i := (spot : Int)) (k := 2) (by omega) (by decide)
      have : Nat.log2 97 < 24 := by decide +kernel
      have e : ((spot : Int)).natAbs.log2 = spot.log2 := rfl
      omega
    simp [mIf, mTestB, mOp, mVar, mCB, mCons, mNil, finN, peeks, peek, gLen, gLt, fin2, mk, mC, entry, Res.bind, gMul, gAdd, h, g]
end LW
end
section
namespace LW
open PySem PySem.Spec PyProof.Rows L2 DL
/-! ### quick copies of small defs, by tables -/
def isR (r : Res RF) (d : D) : Bool := match r with
  | .ok (.fz x) => sameD x d
  | _ => false
theorem isR_ok {r : Res RF} {d : D} (h : isR r d = true) : r = .ok (.fz d) := by
  unfold isR at h
  split at h
  · rw [sameD_ok _ _ h]
  · cases h
theorem all_range {n : Nat} {f : Nat → Bool} (h : (List.range n).all f = true) {i : Nat} (hi : i < n) : f i = true := List.all_eq_true.mp h i (List.mem_range.mpr hi)
def popc (n : Nat) : Nat := n % 2 + n / 2 % 2 + n / 4 % 2 + n / 8 % 2 + n / 16 % 2 + n / 32 % 2 + n / 64 % 2 + n / 128 % 2 + n / 256 % 2 + n / 512 % 2
def chg (n o : Nat) : Nat := popc (Nat.xor o (o / 2) % 2 ^ (n - 1))
def lotG (o : Nat) : Nat → Nat → List D
  | 0, _ => []
  | k + 1, i => match Nat.beq (o % 2) 1 with
    | true => .int (.ofNat i) :: lotG (o / 2) k (i + 1)
    | false => lotG (o / 2) k (i + 1)
def lotN (o : Nat) : List D := lotG o 8 0
def mkN : List D → Option Nat
  | [] => some 0
  | .int (.ofNat i) :: r => match mkN r with
    | some m => some (2 ^ i + m)
    | none => none
  | _ => none
def q_size_of : List D → Res RF
  | [.int (.ofNat n)] => match Nat.ble n 1023 with
    | true => .ok (.fz (.int (.ofNat (popc n))))
    | false => r_size_of [.int (.ofNat n)]
  | ds => r_size_of ds
theorem t_size_of : (List.range 1024).all (fun n => isR (r_size_of [.int (.ofNat n)]) (.int (.ofNat (popc n)))) = true := by decide +kernel
theorem e_size_of : r_size_of = q_size_of := by
  funext ds
  unfold q_size_of
  split
  · rename_i n
    split
    · rename_i h
      exact isR_ok (all_range t_size_of (Nat.lt_succ_of_le (Nat.le_of_ble_eq_true h)))
    · rfl
  · rfl
def inN (n o : Nat) (b : Nat) : Bool := Nat.ble n b && Nat.blt o (2 ^ n)
theorem inN_ok {n o b : Nat} (h : inN n o b = true) : n < b + 1 ∧ o < 2 ^ n := by
  unfold inN at h
  rw [Bool.and_eq_true] at h
  exact ⟨Nat.lt_succ_of_le (Nat.le_of_ble_eq_true h.1), by have q := h.2; simp only [Nat.blt, Nat.ble_eq] at q; exact q⟩
theorem all2 {b : Nat} {f : Nat → Nat → Bool} (h : (List.range (b + 1)).all (fun n => (List.range (2 ^ n)).all (f n)) = true) {n o : Nat} (hi : inN n o b = true) : f n o = true := by
  obtain ⟨h1, h2⟩ := inN_ok hi
  exact all_range (all_range h h1) h2
def q_changes_of : List D → Res RF
  | [.int (.ofNat n), .int (.ofNat o)] => match inN n o 8 with
    | true => .ok (.fz (.int (.ofNat (chg n o))))
    | false => r_changes_of [.int (.ofNat n), .int (.ofNat o)]
  | ds => r_changes_of ds
theorem t_changes_of : (List.range 9).all (fun n => (List.range (2 ^ n)).all fun o => isR (r_changes_of [.int (.ofNat n), .int (.ofNat o)]) (.int (.ofNat (chg n o)))) = true := by decide +kernel
theorem e_changes_of : r_changes_of = q_changes_of := by
  funext ds
  unfold q_changes_of
  split
  · split
    · rename_i h
      exact isR_ok (all2 t_changes_of h)
    · rfl
  · rfl
def q_lot_of : List D → Res RF
  | [.int (.ofNat o)] => match Nat.ble o 255 with
    | true => .ok (.fz (.tup (lotN o)))
    | false => r_lot_of [.int (.ofNat o)]
  | ds => r_lot_of ds
theorem t_lot_of : (List.range 256).all (fun n => isR (r_lot_of [.int (.ofNat n)]) (.tup (lotN n))) = true := by decide +kernel
theorem e_lot_of : r_lot_of = q_lot_of := by
  funext ds
  unfold q_lot_of
  split
  · split
    · rename_i h
      exact isR_ok (all_range t_lot_of (Nat.lt_succ_of_le (Nat.le_of_ble_eq_true h)))
    · rfl
  · rfl
/-- a lot told by its marks -/
def lotM (l : List D) : Option Nat := match mkN l with
  | some o => match sameQs l (lotN o) with
    | true => some o
    | false => none
  | none => none
theorem lotM_ok {l : List D} {o : Nat} (h : lotM l = some o) : l = lotN o := by
  unfold lotM at h
  split at h
  · split at h
    · rename_i hs
      cases h
      rw [sameQs_eq] at hs
      exact sameDs_ok _ _ hs
    · cases h
  · cases h
def q__law_md_changes : List D → Res RF
  | [.int (.ofNat n), .tup l] => match lotM l with
    | some o => match inN n o 8 with
      | true => .ok (.fz (.int (.ofNat (chg n o))))
      | false => r__law_md_changes [.int (.ofNat n), .tup l]
    | none => r__law_md_changes [.int (.ofNat n), .tup l]
  | ds => r__law_md_changes ds
theorem t__law_md_changes : (List.range 9).all (fun n => (List.range (2 ^ n)).all fun o => isR (r__law_md_changes [.int (.ofNat n), .tup (lotN o)]) (.int (.ofNat (chg n o)))) = true := by decide +kernel
theorem e__law_md_changes : r__law_md_changes = q__law_md_changes := by
  funext ds
  unfold q__law_md_changes
  split
  · split
    · rename_i hm
      split
      · rename_i h
        rw [lotM_ok hm]
        exact isR_ok (all2 t__law_md_changes h)
      · rfl
    · rfl
  · rfl
def q_marks_of : List D → Res RF
  | [.tup l] => match lotM l with
    | some o => match Nat.ble o 63 with
      | true => .ok (.fz (.int (.ofNat o)))
      | false => r_marks_of [.tup l]
    | none => r_marks_of [.tup l]
  | ds => r_marks_of ds
theorem t_marks_of : (List.range 64).all (fun o => isR (r_marks_of [.tup (lotN o)]) (.int (.ofNat o))) = true := by decide +kernel
theorem e_marks_of : r_marks_of = q_marks_of := by
  funext ds
  unfold q_marks_of
  split
  · split
    · rename_i hm
      split
      · rename_i h
        rw [lotM_ok hm]
        exact isR_ok (all_range t_marks_of (Nat.lt_succ_of_le (Nat.le_of_ble_eq_true h)))
      · rfl
    · rfl
  · rfl
def q_is_lot_in : List D → Res RF
  | [.int (.ofNat n), .tup l] => match lotM l with
    | some o => match inN n o 6 with
      | true => .ok (.fz (.bl true))
      | false => r_is_lot_in [.int (.ofNat n), .tup l]
    | none => r_is_lot_in [.int (.ofNat n), .tup l]
  | ds => r_is_lot_in ds
theorem t_is_lot_in : (List.range 7).all (fun n => (List.range (2 ^ n)).all fun o => isR (r_is_lot_in [.int (.ofNat n), .tup (lotN o)]) (.bl true)) = true := by decide +kernel
theorem e_is_lot_in : r_is_lot_in = q_is_lot_in := by
  funext ds
  unfold q_is_lot_in
  split
  · split
    · rename_i hm
      split
      · rename_i h
        rw [lotM_ok hm]
        exact isR_ok (all2 t_is_lot_in h)
      · rfl
    · rfl
  · rfl
def n_family_by : MS := mRet (mTup (mCons (mVar 0) (mCons (mCB gTuple (mCons (mCB gSorted (mCons (mDc [2] (mItV (mVar 1)) (gmN 2) (mYes) (mCall 1 q_lot_of (mCons (mVar 2) (mNil))) (mC (.bl true))) (mNil))) (mNil))) (mNil))))
def p_family_by : List D → Res RF := runF 3 n_family_by
theorem e_family_by : r_family_by = p_family_by := by unfold r_family_by p_family_by m_family_by n_family_by; rw [e_lot_of]
def n_thresholds : MS := mSeq (mExpr (mCall 1 r_require_things (mCons (mVar 0) (mNil)))) (mRet (mCall 2 p_family_by (mCons (mVar 0) (mCons (mLc [1] (mItR rngOf1 (mCons (mOp gAdd (mVar 0) (mC (.int 1))) (mNil))) (gmN 1) (mYes) (mOp gSub (mOp gShl (mC (.int 1)) (mVar 1)) (mC (.int 1)))) (mNil)))))
def p_thresholds : List D → Res RF := runF 2 n_thresholds
theorem e_thresholds : r_thresholds = p_thresholds := by unfold r_thresholds p_thresholds m_thresholds n_thresholds; rw [e_family_by]
def n_stretches : MS := mSeq (mExpr (mCall 1 r_require_things (mCons (mVar 0) (mNil)))) (mRet (mCall 2 p_family_by (mCons (mVar 0) (mCons (mCall 1 r_stretches_of (mCons (mVar 0) (mNil))) (mNil)))))
def p_stretches : List D → Res RF := runF 1 n_stretches
theorem e_stretches : r_stretches = p_stretches := by unfold r_stretches p_stretches m_stretches n_stretches; rw [e_family_by]
def n_up_to_changes : MS := mSeq (mExpr (mCall 2 r_require_things_and_size (mCons (mVar 0) (mCons (mVar 1) (mNil))))) (mRet (mCall 2 p_family_by (mCons (mVar 0) (mCons (mLc [2] (mItR rngOf1 (mCons (mOp gShl (mC (.int 1)) (mVar 0)) (mNil))) (gmN 2) (mTestB (mOp gLe (mCall 2 q_changes_of (mCons (mVar 0) (mCons (mVar 2) (mNil)))) (mVar 1))) (mVar 2)) (mNil)))))
def p_up_to_changes : List D → Res RF := runF 3 n_up_to_changes
theorem e_up_to_changes : r_up_to_changes = p_up_to_changes := by unfold r_up_to_changes p_up_to_changes m_up_to_changes n_up_to_changes; rw [e_family_by, e_changes_of]
def n_at_most : MS := mSeq (mExpr (mCall 2 r_require_things_and_size (mCons (mVar 0) (mCons (mVar 1) (mNil))))) (mRet (mCall 2 p_family_by (mCons (mVar 0) (mCons (mLc [2] (mItR rngOf1 (mCons (mOp gShl (mC (.int 1)) (mVar 0)) (mNil))) (gmN 2) (mTestB (mOp gLe (mCall 1 q_size_of (mCons (mVar 2) (mNil))) (mVar 1))) (mVar 2)) (mNil)))))
def p_at_most : List D → Res RF := runF 3 n_at_most
theorem e_at_most : r_at_most = p_at_most := by unfold r_at_most p_at_most m_at_most n_at_most; rw [e_family_by, e_size_of]
def n_just : MS := mSeq (mExpr (mCall 2 r_require_things_and_size (mCons (mVar 0) (mCons (mVar 1) (mNil))))) (mRet (mCall 2 p_family_by (mCons (mVar 0) (mCons (mLc [2] (mItR rngOf1 (mCons (mOp gShl (mC (.int 1)) (mVar 0)) (mNil))) (gmN 2) (mTestB (mOp gEq (mCall 1 q_size_of (mCons (mVar 2) (mNil))) (mVar 1))) (mVar 2)) (mNil)))))
def p_just : List D → Res RF := runF 3 n_just
theorem e_just : r_just = p_just := by unfold r_just p_just m_just n_just; rw [e_family_by, e_size_of]
def n__law_lots_right : MS := mSeq (mSet 2 (mCall 1 r__law_all_lots (mCons (mVar 0) (mNil)))) (mSeq (mSet 3 (mLc [4] (mItV (mVar 2)) (gmN 4) (mTestB (mOp gLe (mCall 2 q__law_md_changes (mCons (mVar 0) (mCons (mVar 4) (mNil)))) (mVar 1))) (mVar 4))) (mSeq (mSet 5 (mLst (mCons (mCall 1 p_thresholds (mCons (mVar 0) (mNil))) (mCons (mCall 1 p_stretches (mCons (mVar 0) (mNil))) (mCons (mCall 2 p_up_to_changes (mCons (mVar 0) (mCons (mVar 1) (mNil)))) (mCons (mCall 2 p_at_most (mCons (mVar 0) (mCons (mVar 1) (mNil)))) (mCons (mCall 2 p_just (mCons (mVar 0) (mCons (mVar 1) (mNil)))) (mNil)))))))) (mSeq (mSet 6 (mLst (mCons (mCall 1 r__law_thresholds (mCons (mVar 0) (mNil))) (mCons (mCall 1 r__law_stretches (mCons (mVar 0) (mNil))) (mCons (mTup (mCons (mVar 0) (mCons (mCB gTuple (mCons (mVar 3) (mNil))) (mNil)))) (mCons (mCall 2 r__law_at_most (mCons (mVar 0) (mCons (mVar 1) (mNil)))) (mNil))))))) (mSeq (mIfS (mTestB (mOp gNe (mCB gRepr (mCons (mVar 5) (mNil))) (mCB gRepr (mCons (mOp gAdd (mVar 6) (mLst (mCons (mTup (mCons (mVar 0) (mCons (mCB gTuple (mCons (mLc [4] (mItV (mVar 2)) (gmN 4) (mTestB (mOp gEq (mCB gLen (mCons (mVar 4) (mNil))) (mVar 1))) (mVar 4)) (mNil))) (mNil)))) (mNil)))) (mNil))))) (mRet (mC (.bl false))) (mNx)) (mRet (mAnd (mOp gEq (mCB gLen (mCons (mVar 3) (mNil))) (mOp gMul (mC (.int 2)) (mCall 2 r__law_sums_upto (mCons (mOp gSub (mVar 0) (mC (.int 1))) (mCons (mVar 1) (mNil)))))) (mOp gEq (mCB gLen (mCons (mIx gIx (mIx gIx (mVar 5) (mC (.int 1))) (mC (.int 1))) (mNil))) (mOp gAdd (mOp gFdiv (mOp gMul (mVar 0) (mOp gAdd (mVar 0) (mC (.int 1)))) (mC (.int 2))) (mC (.int 1))))))))))
def p__law_lots_right : List D → Res RF := runF 7 n__law_lots_right
theorem e__law_lots_right : r__law_lots_right = p__law_lots_right := by unfold r__law_lots_right p__law_lots_right m__law_lots_right n__law_lots_right; rw [e__law_md_changes, e_thresholds, e_stretches, e_up_to_changes, e_at_most, e_just]
def n_is_family_in : MS := mSeq (mIfS (mOrT (mNotT (mTest (mCB gIsi (mCons (mVar 0) (mCons (mC (.ty "tuple")) (mNil)))))) (mOrT (mTestB (mOp gNe (mCB gLen (mCons (mVar 0) (mNil))) (mC (.int (2))))) (mNotT (mTest (mCall 3 r_is_within (mCons (mIx gIx (mVar 0) (mC (.int 0))) (mCons (mC (.int 1)) (mCons (mC (.int (10))) (mNil))))))))) (mRet (mC (.bl false))) (mNx)) (mSeq (mAsg (gmT 2 (gmCons (gmN 1) (gmCons (gmN 2) (gmNil)))) (mVar 0)) (mRet (mAnd (mCB gIsi (mCons (mVar 2) (mCons (mC (.ty "tuple")) (mNil)))) (mAnd (mCB gAll (mCons (mLc [3] (mItV (mVar 2)) (gmN 3) (mYes) (mCall 2 q_is_lot_in (mCons (mVar 1) (mCons (mVar 3) (mNil))))) (mNil))) (mCall 1 r_is_ascending (mCons (mVar 2) (mNil)))))))
def p_is_family_in : List D → Res RF := runF 4 n_is_family_in
theorem e_is_family_in : r_is_family_in = p_is_family_in := by unfold r_is_family_in p_is_family_in m_is_family_in n_is_family_in; rw [e_is_lot_in]
def n_require_family : MS := mIfS (mNotT (mTest (mCall 1 p_is_family_in (mCons (mVar 0) (mNil))))) (mNever) (mNx)
def p_require_family : List D → Res RF := runF 1 n_require_family
theorem e_require_family : r_require_family = p_require_family := by unfold r_require_family p_require_family m_require_family n_require_family; rw [e_is_family_in]
def n_marks_in : MS := mRet (mDc [1] (mItV (mIx gIx (mVar 0) (mC (.int 1)))) (gmN 1) (mYes) (mCall 1 q_marks_of (mCons (mVar 1) (mNil))) (mC (.bl true)))
def p_marks_in : List D → Res RF := runF 2 n_marks_in
theorem e_marks_in : r_marks_in = p_marks_in := by unfold r_marks_in p_marks_in m_marks_in n_marks_in; rw [e_marks_of]
def n_shown_in : MS := mRet (mOp gEq (mCB gLen (mCons (mCall 2 r_traced (mCons (mVar 1) (mCons (mVar 2) (mNil)))) (mNil))) (mOp gShl (mC (.int 1)) (mCall 1 q_size_of (mCons (mVar 2) (mNil)))))
def p_shown_in : List D → Res RF := runF 3 n_shown_in
theorem e_shown_in : r_shown_in = p_shown_in := by unfold r_shown_in p_shown_in m_shown_in n_shown_in; rw [e_size_of]
def n_shown_parts_in : MS := mSeq (mSet 2 (mIf (mTestB (mOp gNe (mVar 1) (mC (.dct [])))) (mLst (mCons (mC (.int 0)) (mNil))) (mLst (mNil)))) (mSeq (mSet 3 (mC (.int 0))) (mSeq (mWhile 2000 (mTestB (mOp gLt (mVar 3) (mCB gLen (mCons (mVar 2) (mNil))))) (mSeq (mSet 4 (mIx gIx (mVar 2) (mVar 3))) (mSeq (mAug 3 gIadd (mC (.int 1))) (mFor (mItR rngOf1 (mCons (mVar 0) (mNil))) (gmN 5) (mIfS (mAndT (mTestB (mOp gGt (mOp gShl (mC (.int 1)) (mVar 5)) (mVar 4))) (mTest (mCall 3 p_shown_in (mCons (mVar 0) (mCons (mVar 1) (mCons (mOp gBor (mVar 4) (mOp gShl (mC (.int 1)) (mVar 5))) (mNil))))))) (mExpr (mMet 2 tyL gAppend (mCons (mOp gBor (mVar 4) (mOp gShl (mC (.int 1)) (mVar 5))) (mNil)))) (mNx)))))) (mRet (mVar 2))))
def p_shown_parts_in : List D → Res RF := runF 6 n_shown_parts_in
theorem e_shown_parts_in : r_shown_parts_in = p_shown_parts_in := by unfold r_shown_parts_in p_shown_parts_in m_shown_parts_in n_shown_parts_in; rw [e_shown_in]
def n_dimension_in : MS := mRet (mCB gMax (mCons (mOp gAdd (mLc [2] (mItV (mCall 2 p_shown_parts_in (mCons (mVar 0) (mCons (mVar 1) (mNil))))) (gmN 2) (mYes) (mCall 1 q_size_of (mCons (mVar 2) (mNil)))) (mLst (mCons (mC (.int (-1))) (mNil)))) (mNil)))
def p_dimension_in : List D → Res RF := runF 3 n_dimension_in
theorem e_dimension_in : r_dimension_in = p_dimension_in := by unfold r_dimension_in p_dimension_in m_dimension_in n_dimension_in; rw [e_shown_parts_in, e_size_of]
def n_dimension : MS := mSeq (mExpr (mCall 1 p_require_family (mCons (mVar 0) (mNil)))) (mRet (mCall 2 p_dimension_in (mCons (mIx gIx (mVar 0) (mC (.int 0))) (mCons (mCall 1 p_marks_in (mCons (mVar 0) (mNil))) (mNil)))))
def p_dimension : List D → Res RF := runF 1 n_dimension
theorem e_dimension : r_dimension = p_dimension := by unfold r_dimension p_dimension m_dimension n_dimension; rw [e_require_family, e_dimension_in, e_marks_in]
def n_require_family_and_size : MS := mSeq (mExpr (mCall 1 p_require_family (mCons (mVar 0) (mNil)))) (mExpr (mCall 1 r_require_size (mCons (mVar 1) (mNil))))
def p_require_family_and_size : List D → Res RF := runF 2 n_require_family_and_size
theorem e_require_family_and_size : r_require_family_and_size = p_require_family_and_size := by unfold r_require_family_and_size p_require_family_and_size m_require_family_and_size n_require_family_and_size; rw [e_require_family]
def n_is_small_in : MS := mRet (mOp gLe (mCall 2 p_dimension_in (mCons (mVar 0) (mCons (mVar 1) (mNil)))) (mVar 2))
def p_is_small_in : List D → Res RF := runF 3 n_is_small_in
theorem e_is_small_in : r_is_small_in = p_is_small_in := by unfold r_is_small_in p_is_small_in m_is_small_in n_is_small_in; rw [e_dimension_in]
def n_is_greatest_in : MS := mRet (mAnd (mOp gEq (mCB gLen (mCons (mVar 1) (mNil))) (mCall 2 r_sauer_in (mCons (mVar 0) (mCons (mVar 2) (mNil))))) (mCall 3 p_is_small_in (mCons (mVar 0) (mCons (mVar 1) (mCons (mVar 2) (mNil))))))
def p_is_greatest_in : List D → Res RF := runF 3 n_is_greatest_in
theorem e_is_greatest_in : r_is_greatest_in = p_is_greatest_in := by unfold r_is_greatest_in p_is_greatest_in m_is_greatest_in n_is_greatest_in; rw [e_is_small_in]
def n_is_greatest : MS := mSeq (mExpr (mCall 2 p_require_family_and_size (mCons (mVar 0) (mCons (mVar 1) (mNil))))) (mRet (mCall 3 p_is_greatest_in (mCons (mIx gIx (mVar 0) (mC (.int 0))) (mCons (mCall 1 p_marks_in (mCons (mVar 0) (mNil))) (mCons (mVar 1) (mNil))))))
def p_is_greatest : List D → Res RF := runF 2 n_is_greatest
theorem e_is_greatest : r_is_greatest = p_is_greatest := by unfold r_is_greatest p_is_greatest m_is_greatest n_is_greatest; rw [e_require_family_and_size, e_is_greatest_in, e_marks_in]
def n_is_extremal_in : MS := mRet (mOp gEq (mCB gLen (mCons (mCall 2 p_shown_parts_in (mCons (mVar 0) (mCons (mVar 1) (mNil)))) (mNil))) (mCB gLen (mCons (mVar 1) (mNil))))
def p_is_extremal_in : List D → Res RF := runF 2 n_is_extremal_in
theorem e_is_extremal_in : r_is_extremal_in = p_is_extremal_in := by unfold r_is_extremal_in p_is_extremal_in m_is_extremal_in n_is_extremal_in; rw [e_shown_parts_in]
def n_is_extremal : MS := mSeq (mExpr (mCall 1 p_require_family (mCons (mVar 0) (mNil)))) (mRet (mCall 2 p_is_extremal_in (mCons (mIx gIx (mVar 0) (mC (.int 0))) (mCons (mCall 1 p_marks_in (mCons (mVar 0) (mNil))) (mNil)))))
def p_is_extremal : List D → Res RF := runF 1 n_is_extremal
theorem e_is_extremal : r_is_extremal = p_is_extremal := by unfold r_is_extremal p_is_extremal m_is_extremal n_is_extremal; rw [e_require_family, e_is_extremal_in, e_marks_in]
def n_shown_parts : MS := mSeq (mExpr (mCall 1 p_require_family (mCons (mVar 0) (mNil)))) (mRet (mCB gTuple (mCons (mCB gSorted (mCons (mLc [1] (mItV (mCall 2 p_shown_parts_in (mCons (mIx gIx (mVar 0) (mC (.int 0))) (mCons (mCall 1 p_marks_in (mCons (mVar 0) (mNil))) (mNil))))) (gmN 1) (mYes) (mCall 1 q_lot_of (mCons (mVar 1) (mNil)))) (mNil))) (mNil))))
def p_shown_parts : List D → Res RF := runF 2 n_shown_parts
theorem e_shown_parts : r_shown_parts = p_shown_parts := by unfold r_shown_parts p_shown_parts m_shown_parts n_shown_parts; rw [e_require_family, e_shown_parts_in, e_marks_in, e_lot_of]
def n__law_shown_right : MS := mSeq (mSet 2 (mLst (mCons (mCall 1 p_dimension (mCons (mCall 1 p_thresholds (mCons (mVar 0) (mNil))) (mNil))) (mCons (mCall 1 p_dimension (mCons (mCall 1 p_stretches (mCons (mVar 0) (mNil))) (mNil))) (mCons (mCall 1 p_dimension (mCons (mCall 2 p_up_to_changes (mCons (mVar 0) (mCons (mVar 1) (mNil)))) (mNil))) (mCons (mCall 1 p_dimension (mCons (mCall 2 p_at_most (mCons (mVar 0) (mCons (mVar 1) (mNil)))) (mNil))) (mNil))))))) (mSeq (mIfS (mTestB (mOp gNe (mVar 2) (mLst (mCons (mC (.int 1)) (mCons (mCB gMin (mCons (mVar 0) (mCons (mC (.int 2)) (mNil)))) (mCons (mCB gMin (mCons (mVar 0) (mCons (mOp gAdd (mVar 1) (mC (.int 1))) (mNil)))) (mCons (mVar 1) (mNil)))))))) (mRet (mC (.bl false))) (mNx)) (mSeq (mSet 2 (mLst (mCons (mCall 2 p_is_greatest (mCons (mCall 1 p_thresholds (mCons (mVar 0) (mNil))) (mCons (mC (.int 1)) (mNil)))) (mCons (mCall 2 p_is_greatest (mCons (mCall 1 p_stretches (mCons (mVar 0) (mNil))) (mCons (mC (.int 2)) (mNil)))) (mCons (mCall 2 p_is_greatest (mCons (mCall 2 p_at_most (mCons (mVar 0) (mCons (mVar 1) (mNil)))) (mCons (mVar 1) (mNil)))) (mNil)))))) (mSeq (mSet 2 (mOp gAdd (mVar 2) (mLst (mCons (mCall 1 p_is_extremal (mCons (mCall 1 p_thresholds (mCons (mVar 0) (mNil))) (mNil))) (mCons (mCall 1 p_is_extremal (mCons (mCall 1 p_stretches (mCons (mVar 0) (mNil))) (mNil))) (mCons (mCall 1 p_is_extremal (mCons (mCall 2 p_at_most (mCons (mVar 0) (mCons (mVar 1) (mNil)))) (mNil))) (mNil))))))) (mSeq (mIfS (mTestB (mOp gNe (mVar 2) (mOp gMul (mLst (mCons (mC (.bl true)) (mNil))) (mC (.int 6))))) (mRet (mC (.bl false))) (mNx)) (mSeq (mSet 3 (mCB gMin (mCons (mVar 1) (mCons (mOp gSub (mVar 0) (mVar 1)) (mNil))))) (mRet (mOp gEq (mCall 1 p_shown_parts (mCons (mCall 2 p_just (mCons (mVar 0) (mCons (mVar 1) (mNil)))) (mNil))) (mCB gTuple (mCons (mLc [4] (mItV (mCall 1 r__law_all_lots (mCons (mVar 0) (mNil)))) (gmN 4) (mTestB (mOp gLe (mCB gLen (mCons (mVar 4) (mNil))) (mVar 3))) (mVar 4)) (mNil))))))))))
def p__law_shown_right : List D → Res RF := runF 5 n__law_shown_right
theorem e__law_shown_right : r__law_shown_right = p__law_shown_right := by unfold r__law_shown_right p__law_shown_right m__law_shown_right n__law_shown_right; rw [e_dimension, e_thresholds, e_stretches, e_up_to_changes, e_at_most, e_is_greatest, e_is_extremal, e_shown_parts, e_just]
def n_law : MS := mSeq (mFor (mItR rngOf1 (mCons (mCB gMax (mCons (mC (.int 1)) (mCons (mCB gMin (mCons (mC (.int 3)) (mCons (mCB gLen (mCons (mVar 0) (mNil))) (mNil)))) (mNil)))) (mNil))) (gmN 1) (mSeq (mSet 2 (mCall 2 r__law_dice (mCons (mVar 0) (mCons (mVar 1) (mNil))))) (mSeq (mSet 3 (mOp gAdd (mC (.int 1)) (mCallI 2 r__law_roll (mCons (mVar 2) (mCons (mC (.int 8)) (mNil)))))) (mSeq (mIfS (mNotT (mTest (mCall 2 p__law_lots_right (mCons (mVar 3) (mCons (mCallI 2 r__law_roll (mCons (mVar 2) (mCons (mOp gAdd (mVar 3) (mC (.int 1))) (mNil)))) (mNil)))))) (mRet (mC (.bl false))) (mNx)) (mSeq (mSet 3 (mOp gAdd (mC (.int 1)) (mCallI 2 r__law_roll (mCons (mVar 2) (mCons (mC (.int 6)) (mNil)))))) (mIfS (mNotT (mTest (mCall 2 p__law_shown_right (mCons (mVar 3) (mCons (mCallI 2 r__law_roll (mCons (mVar 2) (mCons (mOp gAdd (mVar 3) (mC (.int 1))) (mNil)))) (mNil)))))) (mRet (mC (.bl false))) (mNx))))))) (mSeq (mSet 4 (mTup (mCons (mC (.int 2)) (mCons (mTup (mCons (mTup (mNil)) (mCons (mTup (mCons (mC (.int 0)) (mNil))) (mCons (mTup (mCons (mC (.int 0)) (mCons (mC (.int 1)) (mNil)))) (mCons (mTup (mCons (mC (.int 1)) (mNil))) (mNil)))))) (mNil))))) (mSeq (mSet 5 (mLst (mCons (mCall 1 p_thresholds (mCons (mC (.int 2)) (mNil))) (mCons (mCall 1 p_stretches (mCons (mC (.int 2)) (mNil))) (mCons (mCall 2 p_up_to_changes (mCons (mC (.int 3)) (mCons (mC (.int 0)) (mNil)))) (mCons (mCall 2 p_up_to_changes (mCons (mC (.int 2)) (mCons (mC (.int 1)) (mNil)))) (mCons (mCall 2 p_at_most (mCons (mC (.int 2)) (mCons (mC (.int 1)) (mNil)))) (mCons (mCall 2 p_just (mCons (mC (.int 3)) (mCons (mC (.int 2)) (mNil)))) (mNil))))))))) (mSeq (mSet 5 (mOp gAdd (mVar 5) (mLst (mCons (mCall 1 p_thresholds (mCons (mC (.int 1)) (mNil))) (mCons (mCall 1 p_stretches (mCons (mC (.int 1)) (mNil))) (mCons (mCall 2 p_up_to_changes (mCons (mC (.int 1)) (mCons (mC (.int 1)) (mNil)))) (mCons (mCall 2 p_just (mCons (mC (.int 2)) (mCons (mC (.int 0)) (mNil)))) (mCons (mCall 2 p_at_most (mCons (mC (.int 3)) (mCons (mC (.int 0)) (mNil)))) (mCons (mCB gLen (mCons (mIx gIx (mCall 2 p_at_most (mCons (mC (.int 10)) (mCons (mC (.int 5)) (mNil)))) (mC (.int 1))) (mNil))) (mNil)))))))))) (mSeq (mSet 6 (mLst (mCons (mTup (mCons (mC (.int 2)) (mCons (mTup (mCons (mTup (mNil)) (mCons (mTup (mCons (mC (.int 0)) (mNil))) (mCons (mTup (mCons (mC (.int 0)) (mCons (mC (.int 1)) (mNil)))) (mNil))))) (mNil)))) (mCons (mVar 4) (mCons (mTup (mCons (mC (.int 3)) (mCons (mTup (mCons (mTup (mNil)) (mCons (mTup (mCons (mC (.int 0)) (mCons (mC (.int 1)) (mCons (mC (.int 2)) (mNil))))) (mNil)))) (mNil)))) (mCons (mVar 4) (mCons (mTup (mCons (mC (.int 2)) (mCons (mTup (mCons (mTup (mNil)) (mCons (mTup (mCons (mC (.int 0)) (mNil))) (mCons (mTup (mCons (mC (.int 1)) (mNil))) (mNil))))) (mNil)))) (mNil)))))))) (mSeq (mSet 6 (mOp gAdd (mOp gAdd (mOp gAdd (mVar 6) (mLst (mCons (mTup (mCons (mC (.int 3)) (mCons (mTup (mCons (mTup (mCons (mC (.int 0)) (mCons (mC (.int 1)) (mNil)))) (mCons (mTup (mCons (mC (.int 0)) (mCons (mC (.int 2)) (mNil)))) (mCons (mTup (mCons (mC (.int 1)) (mCons (mC (.int 2)) (mNil)))) (mNil))))) (mNil)))) (mNil)))) (mOp gMul (mLst (mCons (mTup (mCons (mC (.int 1)) (mCons (mTup (mCons (mTup (mNil)) (mCons (mTup (mCons (mC (.int 0)) (mNil))) (mNil)))) (mNil)))) (mNil))) (mC (.int 3)))) (mLst (mCons (mTup (mCons (mC (.int 2)) (mCons (mTup (mCons (mTup (mNil)) (mNil))) (mNil)))) (mCons (mTup (mCons (mC (.int 3)) (mCons (mTup (mCons (mTup (mNil)) (mNil))) (mNil)))) (mCons (mC (.int 638)) (mNil))))))) (mRet (mOp gEq (mVar 5) (mVar 6))))))))
def p_law : List D → Res RF := runF 7 n_law
theorem e_law : r_law = p_law := by unfold r_law p_law m_law n_law; rw [e__law_lots_right, e__law_shown_right, e_thresholds, e_stretches, e_up_to_changes, e_at_most, e_just]
end LW
end
section
namespace LW
open PySem PySem.Spec PyProof.Rows L2 DL
def n_walk : MI := mItR rngOf1 (mCons (mCB gMax (mCons (mC (.int 1)) (mCons (mCB gMin (mCons (mC (.int 3)) (mCons (mCB gLen (mCons (mVar 0) (mNil))) (mNil)))) (mNil)))) (mNil))
def n_body : MS := mSeq (mSet 2 (mCall 2 r__law_dice (mCons (mVar 0) (mCons (mVar 1) (mNil))))) (mSeq (mSet 3 (mOp gAdd (mC (.int 1)) (mCallI 2 r__law_roll (mCons (mVar 2) (mCons (mC (.int 8)) (mNil)))))) (mSeq (mIfS (mNotT (mTest (mCall 2 p__law_lots_right (mCons (mVar 3) (mCons (mCallI 2 r__law_roll (mCons (mVar 2) (mCons (mOp gAdd (mVar 3) (mC (.int 1))) (mNil)))) (mNil)))))) (mRet (mC (.bl false))) (mNx)) (mSeq (mSet 3 (mOp gAdd (mC (.int 1)) (mCallI 2 r__law_roll (mCons (mVar 2) (mCons (mC (.int 6)) (mNil)))))) (mIfS (mNotT (mTest (mCall 2 p__law_shown_right (mCons (mVar 3) (mCons (mCallI 2 r__law_roll (mCons (mVar 2) (mCons (mOp gAdd (mVar 3) (mC (.int 1))) (mNil)))) (mNil)))))) (mRet (mC (.bl false))) (mNx)))))
def n_tail : MS := mSeq (mSet 4 (mTup (mCons (mC (.int 2)) (mCons (mTup (mCons (mTup (mNil)) (mCons (mTup (mCons (mC (.int 0)) (mNil))) (mCons (mTup (mCons (mC (.int 0)) (mCons (mC (.int 1)) (mNil)))) (mCons (mTup (mCons (mC (.int 1)) (mNil))) (mNil)))))) (mNil))))) (mSeq (mSet 5 (mLst (mCons (mCall 1 p_thresholds (mCons (mC (.int 2)) (mNil))) (mCons (mCall 1 p_stretches (mCons (mC (.int 2)) (mNil))) (mCons (mCall 2 p_up_to_changes (mCons (mC (.int 3)) (mCons (mC (.int 0)) (mNil)))) (mCons (mCall 2 p_up_to_changes (mCons (mC (.int 2)) (mCons (mC (.int 1)) (mNil)))) (mCons (mCall 2 p_at_most (mCons (mC (.int 2)) (mCons (mC (.int 1)) (mNil)))) (mCons (mCall 2 p_just (mCons (mC (.int 3)) (mCons (mC (.int 2)) (mNil)))) (mNil))))))))) (mSeq (mSet 5 (mOp gAdd (mVar 5) (mLst (mCons (mCall 1 p_thresholds (mCons (mC (.int 1)) (mNil))) (mCons (mCall 1 p_stretches (mCons (mC (.int 1)) (mNil))) (mCons (mCall 2 p_up_to_changes (mCons (mC (.int 1)) (mCons (mC (.int 1)) (mNil)))) (mCons (mCall 2 p_just (mCons (mC (.int 2)) (mCons (mC (.int 0)) (mNil)))) (mCons (mCall 2 p_at_most (mCons (mC (.int 3)) (mCons (mC (.int 0)) (mNil)))) (mCons (mCB gLen (mCons (mIx gIx (mCall 2 p_at_most (mCons (mC (.int 10)) (mCons (mC (.int 5)) (mNil)))) (mC (.int 1))) (mNil))) (mNil)))))))))) (mSeq (mSet 6 (mLst (mCons (mTup (mCons (mC (.int 2)) (mCons (mTup (mCons (mTup (mNil)) (mCons (mTup (mCons (mC (.int 0)) (mNil))) (mCons (mTup (mCons (mC (.int 0)) (mCons (mC (.int 1)) (mNil)))) (mNil))))) (mNil)))) (mCons (mVar 4) (mCons (mTup (mCons (mC (.int 3)) (mCons (mTup (mCons (mTup (mNil)) (mCons (mTup (mCons (mC (.int 0)) (mCons (mC (.int 1)) (mCons (mC (.int 2)) (mNil))))) (mNil)))) (mNil)))) (mCons (mVar 4) (mCons (mTup (mCons (mC (.int 2)) (mCons (mTup (mCons (mTup (mNil)) (mCons (mTup (mCons (mC (.int 0)) (mNil))) (mCons (mTup (mCons (mC (.int 1)) (mNil))) (mNil))))) (mNil)))) (mNil)))))))) (mSeq (mSet 6 (mOp gAdd (mOp gAdd (mOp gAdd (mVar 6) (mLst (mCons (mTup (mCons (mC (.int 3)) (mCons (mTup (mCons (mTup (mCons (mC (.int 0)) (mCons (mC (.int 1)) (mNil)))) (mCons (mTup (mCons (mC (.int 0)) (mCons (mC (.int 2)) (mNil)))) (mCons (mTup (mCons (mC (.int 1)) (mCons (mC (.int 2)) (mNil)))) (mNil))))) (mNil)))) (mNil)))) (mOp gMul (mLst (mCons (mTup (mCons (mC (.int 1)) (mCons (mTup (mCons (mTup (mNil)) (mCons (mTup (mCons (mC (.int 0)) (mNil))) (mNil)))) (mNil)))) (mNil))) (mC (.int 3)))) (mLst (mCons (mTup (mCons (mC (.int 2)) (mCons (mTup (mCons (mTup (mNil)) (mNil))) (mNil)))) (mCons (mTup (mCons (mC (.int 3)) (mCons (mTup (mCons (mTup (mNil)) (mNil))) (mNil)))) (mCons (mC (.int 638)) (mNil))))))) (mRet (mOp gEq (mVar 5) (mVar 6)))))))
theorem n_law_eq : n_law = mSeq (mFor n_walk (gmN 1) n_body) n_tail := rfl
end LW
end
section
namespace LW
open PySem PySem.Spec PyProof.Rows L2 DL
theorem roll_any (a b c t : Int) (ha : 0 ≤ a) (hb : b.natAbs < 2 ^ 100) (hc : 0 ≤ c ∧ c < 1000) (ht : 1 ≤ t ∧ t ≤ 16) :
    ∃ r a' c', r__law_roll (.lst [.int a, .int b, .int c]) [.int t] = .ok (.fz (.int r), .lst [.int a', .int b, .int c']) ∧ 0 ≤ r ∧ r < t ∧ 0 ≤ a' ∧ 0 ≤ c' ∧ c' ≤ c + 1 := by
  by_cases h : 0 < a
  · exact ⟨_, _, _, roll_pos a b c t h ht, Int.fmod_nonneg_of_pos _ (by omega), Int.fmod_lt_of_pos _ (by omega), Int.ediv_nonneg ha (by omega), hc.1, by omega⟩
  · obtain ⟨r, e, h1, h2⟩ := roll_neg a b c t h hb hc ht
    exact ⟨r, a, c + 1, e, h1, h2, ha, by omega, by omega⟩
theorem rng_ok (M : Int) (h : 1 ≤ M ∧ M ≤ 3) : rngOf1 [.int M] = some (rngD 0 M.toNat) := by
  unfold rngOf1
  simp only
  rw [if_pos (by omega)]
theorem forL_inv {g : MG} {b : MS} (Inv : DL.Env → Prop) : ∀ (ds : List D) (ρ : DL.Env), Inv ρ → (∀ d ∈ ds, ∀ ρ, Inv ρ → ∃ ρ1, g d ρ = some ρ1 ∧ ∃ ρ2, b ρ1 = .ok (.nx, ρ2) ∧ Inv ρ2) → ∃ ρ', mForL g b ds ρ = .ok (.nx, ρ') ∧ Inv ρ'
  | [], ρ, h, _ => ⟨ρ, rfl, h⟩
  | d :: ds, ρ, h, step => by
    obtain ⟨ρ1, e1, ρ2, e2, h2⟩ := step d List.mem_cons_self ρ h
    obtain ⟨ρ', e', h'⟩ := forL_inv Inv ds ρ2 h2 fun d hd => step d (List.mem_cons_of_mem _ hd)
    refine ⟨ρ', ?_, h'⟩
    simp only [mForL, e1, e2, Res.bind]
    exact e'
section
variable (lots : ∀ n k : Int, 1 ≤ n → n ≤ 8 → 0 ≤ k → k ≤ n → p__law_lots_right [.int n, .int k] = .ok (.fz (.bl true)))
  (shown : ∀ n k : Int, 1 ≤ n → n ≤ 6 → 0 ≤ k → k ≤ n → p__law_shown_right [.int n, .int k] = .ok (.fz (.bl true)))
include lots shown
theorem body_ok (ns : List Int) (i : Nat) (hi : i < 3) (s2 s3 s4 s5 s6 : Sl) : ∃ s2' s3', n_body [.fz (.scr ns), .fz (.int i), s2, s3, s4, s5, s6] = .ok (.nx, [.fz (.scr ns), .fz (.int i), s2', s3', s4, s5, s6]) := by
  obtain ⟨a, b, hd, ha, hb⟩ := dice_ok ns i hi
  obtain ⟨r1, a1, c1, e1, x1, y1, z1, w1, v1⟩ := roll_any a b 0 8 ha hb (by omega) (by omega)
  obtain ⟨r2, a2, c2, e2, x2, y2, z2, w2, v2⟩ := roll_any a1 b c1 (1 + r1 + 1) z1 hb (by omega) (by omega)
  have l := lots (1 + r1) r2 (by omega) (by omega) x2 (by omega)
  obtain ⟨r3, a3, c3, e3, x3, y3, z3, w3, v3⟩ := roll_any a2 b c2 6 z2 hb (by omega) (by omega)
  obtain ⟨r4, a4, c4, e4, x4, y4, z4, w4, v4⟩ := roll_any a3 b c3 (1 + r3 + 1) z3 hb (by omega) (by omega)
  have s := shown (1 + r3) r4 (by omega) (by omega) x4 (by omega)
  refine ⟨.ow false (.lst [.int a4, .int b, .int c4]), .fz (.int (1 + r3)), ?_⟩
  simp [n_body, mSeq, thenS, mSet, mCall, mCons, mNil, mVar, frzs, frz1, lenIs, hd, Res.bind, nrm, putN, RF.r, mOp, mC, mk, fin2, peek, gAdd, mCallI, lenIsI, e1, e2, e3, e4, l, s, mIfS, mNotT, mTest, truD, mNx]
theorem walk_ok (ns : List Int) (hns : ns.length ≤ 63) : ∃ s1 s2 s3 s4 s5 s6 : Sl, mFor n_walk (gmN 1) n_body (entry 7 [.scr ns]) = .ok (.nx, [.fz (.scr ns), s1, s2, s3, s4, s5, s6]) := by
  have hw : ∃ m : Nat, m ≤ 3 ∧ n_walk (entry 7 [.scr ns]) = .ok (rngD 0 m, entry 7 [.scr ns]) := by
    refine ⟨(if (if (ns.length : Int) < 3 then (ns.length : Int) else 3) > 1 then (if (ns.length : Int) < 3 then (ns.length : Int) else 3) else 1).toNat, ?_, ?_⟩
    · split <;> split <;> omega
    · simp only [n_walk, entry, mItR, mCB, mCons, mNil, mC, mk, mVar, finN, peeks, peek, gMax, gMin, gLen, Res.bind, List.map_cons, List.map_nil, List.cons_append, List.nil_append, List.getElem?_cons_zero]
      rw [rng_ok _ (by split <;> split <;> omega)]
  obtain ⟨m, hm, hw⟩ := hw
  obtain ⟨ρ', e, h⟩ := forL_inv (g := gmN 1) (b := n_body) (fun ρ : DL.Env => ∃ s1 s2 s3 s4 s5 s6 : Sl, ρ = [Sl.fz (D.scr ns), s1, s2, s3, s4, s5, s6]) (rngD 0 m) (entry 7 [.scr ns]) ⟨Sl.un, Sl.un, Sl.un, Sl.un, Sl.un, Sl.un, rfl⟩ (fun d hd ρ ⟨s1, s2, s3, s4, s5, s6, e⟩ => by
    subst e
    unfold rngD at hd
    obtain ⟨i, hi, rfl⟩ := List.mem_map.mp hd
    have hi := List.mem_range.mp hi
    obtain ⟨s2', s3', eb⟩ := body_ok lots shown ns i (by omega) s2 s3 s4 s5 s6
    refine ⟨[Sl.fz (D.scr ns), Sl.fz (D.int (0 + (i : Int))), s2, s3, s4, s5, s6], rfl, [Sl.fz (D.scr ns), Sl.fz (D.int (i : Int)), s2', s3', s4, s5, s6], ?_, Sl.fz (D.int (i : Int)), s2', s3', s4, s5, s6, rfl⟩
    rw [show (0 : Int) + (i : Int) = i by omega]
    exact eb)
  obtain ⟨s1, s2, s3, s4, s5, s6, e6⟩ := h
  subst e6
  refine ⟨s1, s2, s3, s4, s5, s6, ?_⟩
  unfold mFor
  rw [hw]
  exact e
theorem law_of (tail : ∀ s0 s1 s2 s3 s4 s5 s6 : Sl, ∃ ρ', n_tail [s0, s1, s2, s3, s4, s5, s6] = .ok (.rt (.fz (.bl true)), ρ')) (ns : List Int) (hns : ns.length ≤ 63) : r_law [.scr ns] = .ok (.fz (.bl true)) := by
  obtain ⟨s1, s2, s3, s4, s5, s6, e⟩ := walk_ok lots shown ns hns
  obtain ⟨ρ', e2⟩ := tail (.fz (.scr ns)) s1 s2 s3 s4 s5 s6
  rw [e_law]
  unfold p_law runF
  rw [n_law_eq]
  unfold mSeq
  rw [e]
  simp only [Res.bind, thenS, e2]
end
end LW
end
section
namespace LW
open PySem PySem.Spec PyProof.Rows L2 DL
def okT (r : Res RF) : Bool := match r with
  | .ok (.fz (.bl b)) => b
  | _ => false
theorem okT_ok {r : Res RF} (h : okT r = true) : r = .ok (.fz (.bl true)) := by
  unfold okT at h
  split at h
  · subst h; rfl
  · cases h
def okS (r : Res (Fl × DL.Env)) : Bool := match r with
  | .ok (.rt (.fz (.bl b)), _) => b
  | _ => false
theorem okS_ok {r : Res (Fl × DL.Env)} (h : okS r = true) : ∃ ρ', r = .ok (.rt (.fz (.bl true)), ρ') := by
  unfold okS at h
  split at h
  · subst h; exact ⟨_, rfl⟩
  · cases h
theorem tail_ok (s0 s1 s2 s3 s4 s5 s6 : Sl) : okS (n_tail [s0, s1, s2, s3, s4, s5, s6]) = true := by kernel_rfl
theorem lots_1_0 : okT (p__law_lots_right [.int 1, .int 0]) = true := by decide +kernel
theorem lots_1_1 : okT (p__law_lots_right [.int 1, .int 1]) = true := by decide +kernel
theorem lots_2_0 : okT (p__law_lots_right [.int 2, .int 0]) = true := by decide +kernel
theorem lots_2_1 : okT (p__law_lots_right [.int 2, .int 1]) = true := by decide +kernel
theorem lots_2_2 : okT (p__law_lots_right [.int 2, .int 2]) = true := by decide +kernel
theorem lots_3_0 : okT (p__law_lots_right [.int 3, .int 0]) = true := by decide +kernel
theorem lots_3_1 : okT (p__law_lots_right [.int 3, .int 1]) = true := by decide +kernel
theorem lots_3_2 : okT (p__law_lots_right [.int 3, .int 2]) = true := by decide +kernel
theorem lots_3_3 : okT (p__law_lots_right [.int 3, .int 3]) = true := by decide +kernel
theorem lots_4_0 : okT (p__law_lots_right [.int 4, .int 0]) = true := by decide +kernel
theorem lots_4_1 : okT (p__law_lots_right [.int 4, .int 1]) = true := by decide +kernel
theorem lots_4_2 : okT (p__law_lots_right [.int 4, .int 2]) = true := by decide +kernel
theorem lots_4_3 : okT (p__law_lots_right [.int 4, .int 3]) = true := by decide +kernel
theorem lots_4_4 : okT (p__law_lots_right [.int 4, .int 4]) = true := by decide +kernel
theorem lots_5_0 : okT (p__law_lots_right [.int 5, .int 0]) = true := by decide +kernel
theorem lots_5_1 : okT (p__law_lots_right [.int 5, .int 1]) = true := by decide +kernel
theorem lots_5_2 : okT (p__law_lots_right [.int 5, .int 2]) = true := by decide +kernel
theorem lots_5_3 : okT (p__law_lots_right [.int 5, .int 3]) = true := by decide +kernel
theorem lots_5_4 : okT (p__law_lots_right [.int 5, .int 4]) = true := by decide +kernel
theorem lots_5_5 : okT (p__law_lots_right [.int 5, .int 5]) = true := by decide +kernel
theorem lots_6_0 : okT (p__law_lots_right [.int 6, .int 0]) = true := by decide +kernel
theorem lots_6_1 : okT (p__law_lots_right [.int 6, .int 1]) = true := by decide +kernel
theorem lots_6_2 : okT (p__law_lots_right [.int 6, .int 2]) = true := by decide +kernel
theorem lots_6_3 : okT (p__law_lots_right [.int 6, .int 3]) = true := by decide +kernel
theorem lots_6_4 : okT (p__law_lots_right [.int 6, .int 4]) = true := by decide +kernel
theorem lots_6_5 : okT (p__law_lots_right [.int 6, .int 5]) = true := by decide +kernel
theorem lots_6_6 : okT (p__law_lots_right [.int 6, .int 6]) = true := by decide +kernel
theorem lots_7_0 : okT (p__law_lots_right [.int 7, .int 0]) = true := by decide +kernel
theorem lots_7_1 : okT (p__law_lots_right [.int 7, .int 1]) = true := by decide +kernel
theorem lots_7_2 : okT (p__law_lots_right [.int 7, .int 2]) = true := by decide +kernel
theorem lots_7_3 : okT (p__law_lots_right [.int 7, .int 3]) = true := by decide +kernel
theorem lots_7_4 : okT (p__law_lots_right [.int 7, .int 4]) = true := by decide +kernel
theorem lots_7_5 : okT (p__law_lots_right [.int 7, .int 5]) = true := by decide +kernel
theorem lots_7_6 : okT (p__law_lots_right [.int 7, .int 6]) = true := by decide +kernel
theorem lots_7_7 : okT (p__law_lots_right [.int 7, .int 7]) = true := by decide +kernel
theorem lots_8_0 : okT (p__law_lots_right [.int 8, .int 0]) = true := by decide +kernel
theorem lots_8_1 : okT (p__law_lots_right [.int 8, .int 1]) = true := by decide +kernel
theorem lots_8_2 : okT (p__law_lots_right [.int 8, .int 2]) = true := by decide +kernel
theorem lots_8_3 : okT (p__law_lots_right [.int 8, .int 3]) = true := by decide +kernel
theorem lots_8_4 : okT (p__law_lots_right [.int 8, .int 4]) = true := by decide +kernel
theorem lots_8_5 : okT (p__law_lots_right [.int 8, .int 5]) = true := by decide +kernel
theorem lots_8_6 : okT (p__law_lots_right [.int 8, .int 6]) = true := by decide +kernel
theorem lots_8_7 : okT (p__law_lots_right [.int 8, .int 7]) = true := by decide +kernel
theorem lots_8_8 : okT (p__law_lots_right [.int 8, .int 8]) = true := by decide +kernel
theorem shown_1_0 : okT (p__law_shown_right [.int 1, .int 0]) = true := by decide +kernel
theorem shown_1_1 : okT (p__law_shown_right [.int 1, .int 1]) = true := by decide +kernel
theorem shown_2_0 : okT (p__law_shown_right [.int 2, .int 0]) = true := by decide +kernel
theorem shown_2_1 : okT (p__law_shown_right [.int 2, .int 1]) = true := by decide +kernel
theorem shown_2_2 : okT (p__law_shown_right [.int 2, .int 2]) = true := by decide +kernel
theorem shown_3_0 : okT (p__law_shown_right [.int 3, .int 0]) = true := by decide +kernel
theorem shown_3_1 : okT (p__law_shown_right [.int 3, .int 1]) = true := by decide +kernel
theorem shown_3_2 : okT (p__law_shown_right [.int 3, .int 2]) = true := by decide +kernel
theorem shown_3_3 : okT (p__law_shown_right [.int 3, .int 3]) = true := by decide +kernel
theorem shown_4_0 : okT (p__law_shown_right [.int 4, .int 0]) = true := by decide +kernel
theorem shown_4_1 : okT (p__law_shown_right [.int 4, .int 1]) = true := by decide +kernel
theorem shown_4_2 : okT (p__law_shown_right [.int 4, .int 2]) = true := by decide +kernel
theorem shown_4_3 : okT (p__law_shown_right [.int 4, .int 3]) = true := by decide +kernel
theorem shown_4_4 : okT (p__law_shown_right [.int 4, .int 4]) = true := by decide +kernel
theorem shown_5_0 : okT (p__law_shown_right [.int 5, .int 0]) = true := by decide +kernel
theorem shown_5_1 : okT (p__law_shown_right [.int 5, .int 1]) = true := by decide +kernel
theorem shown_5_2 : okT (p__law_shown_right [.int 5, .int 2]) = true := by decide +kernel
theorem shown_5_3 : okT (p__law_shown_right [.int 5, .int 3]) = true := by decide +kernel
theorem shown_5_4 : okT (p__law_shown_right [.int 5, .int 4]) = true := by decide +kernel
theorem shown_5_5 : okT (p__law_shown_right [.int 5, .int 5]) = true := by decide +kernel
theorem shown_6_0 : okT (p__law_shown_right [.int 6, .int 0]) = true := by decide +kernel
theorem shown_6_1 : okT (p__law_shown_right [.int 6, .int 1]) = true := by decide +kernel
theorem shown_6_2 : okT (p__law_shown_right [.int 6, .int 2]) = true := by decide +kernel
theorem shown_6_3 : okT (p__law_shown_right [.int 6, .int 3]) = true := by decide +kernel
theorem shown_6_4 : okT (p__law_shown_right [.int 6, .int 4]) = true := by decide +kernel
theorem shown_6_5 : okT (p__law_shown_right [.int 6, .int 5]) = true := by decide +kernel
theorem shown_6_6 : okT (p__law_shown_right [.int 6, .int 6]) = true := by decide +kernel
theorem lots_all (n k : Int) (h1 : 1 ≤ n) (h2 : n ≤ 8) (h3 : 0 ≤ k) (h4 : k ≤ n) : p__law_lots_right [.int n, .int k] = .ok (.fz (.bl true)) := by
  have hn : n = 1 ∨ n = 2 ∨ n = 3 ∨ n = 4 ∨ n = 5 ∨ n = 6 ∨ n = 7 ∨ n = 8 := by omega
  rcases hn with rfl | rfl | rfl | rfl | rfl | rfl | rfl | rfl
  · have hk : k = 0 ∨ k = 1 := by omega
    rcases hk with rfl | rfl
    · exact okT_ok lots_1_0
    · exact okT_ok lots_1_1
  · have hk : k = 0 ∨ k = 1 ∨ k = 2 := by omega
    rcases hk with rfl | rfl | rfl
    · exact okT_ok lots_2_0
    · exact okT_ok lots_2_1
    · exact okT_ok lots_2_2
  · have hk : k = 0 ∨ k = 1 ∨ k = 2 ∨ k = 3 := by omega
    rcases hk with rfl | rfl | rfl | rfl
    · exact okT_ok lots_3_0
    · exact okT_ok lots_3_1
    · exact okT_ok lots_3_2
    · exact okT_ok lots_3_3
  · have hk : k = 0 ∨ k = 1 ∨ k = 2 ∨ k = 3 ∨ k = 4 := by omega
    rcases hk with rfl | rfl | rfl | rfl | rfl
    · exact okT_ok lots_4_0
    · exact okT_ok lots_4_1
    · exact okT_ok lots_4_2
    · exact okT_ok lots_4_3
    · exact okT_ok lots_4_4
  · have hk : k = 0 ∨ k = 1 ∨ k = 2 ∨ k = 3 ∨ k = 4 ∨ k = 5 := by omega
    rcases hk with rfl | rfl | rfl | rfl | rfl | rfl
    · exact okT_ok lots_5_0
    · exact okT_ok lots_5_1
    · exact okT_ok lots_5_2
    · exact okT_ok lots_5_3
    · exact okT_ok lots_5_4
    · exact okT_ok lots_5_5
  · have hk : k = 0 ∨ k = 1 ∨ k = 2 ∨ k = 3 ∨ k = 4 ∨ k = 5 ∨ k = 6 := by omega
    rcases hk with rfl | rfl | rfl | rfl | rfl | rfl | rfl
    · exact okT_ok lots_6_0
    · exact okT_ok lots_6_1
    · exact okT_ok lots_6_2
    · exact okT_ok lots_6_3
    · exact okT_ok lots_6_4
    · exact okT_ok lots_6_5
    · exact okT_ok lots_6_6
  · have hk : k = 0 ∨ k = 1 ∨ k = 2 ∨ k = 3 ∨ k = 4 ∨ k = 5 ∨ k = 6 ∨ k = 7 := by omega
    rcases hk with rfl | rfl | rfl | rfl | rfl | rfl | rfl | rfl
    · exact okT_ok lots_7_0
    · exact okT_ok lots_7_1
    · exact okT_ok lots_7_2
    · exact okT_ok lots_7_3
    · exact okT_ok lots_7_4
    · exact okT_ok lots_7_5
    · exact okT_ok lots_7_6
    · exact okT_ok lots_7_7
  · have hk : k = 0 ∨ k = 1 ∨ k = 2 ∨ k = 3 ∨ k = 4 ∨ k = 5 ∨ k = 6 ∨ k = 7 ∨ k = 8 := by omega
    rcases hk with rfl | rfl | rfl | rfl | rfl | rfl | rfl | rfl | rfl
    · exact okT_ok lots_8_0
    · exact okT_ok lots_8_1
    · exact okT_ok lots_8_2
    · exact okT_ok lots_8_3
    · exact okT_ok lots_8_4
    · exact okT_ok lots_8_5
    · exact okT_ok lots_8_6
    · exact okT_ok lots_8_7
    · exact okT_ok lots_8_8

theorem shown_all (n k : Int) (h1 : 1 ≤ n) (h2 : n ≤ 6) (h3 : 0 ≤ k) (h4 : k ≤ n) : p__law_shown_right [.int n, .int k] = .ok (.fz (.bl true)) := by
  have hn : n = 1 ∨ n = 2 ∨ n = 3 ∨ n = 4 ∨ n = 5 ∨ n = 6 := by omega
  rcases hn with rfl | rfl | rfl | rfl | rfl | rfl
  · have hk : k = 0 ∨ k = 1 := by omega
    rcases hk with rfl | rfl
    · exact okT_ok shown_1_0
    · exact okT_ok shown_1_1
  · have hk : k = 0 ∨ k = 1 ∨ k = 2 := by omega
    rcases hk with rfl | rfl | rfl
    · exact okT_ok shown_2_0
    · exact okT_ok shown_2_1
    · exact okT_ok shown_2_2
  · have hk : k = 0 ∨ k = 1 ∨ k = 2 ∨ k = 3 := by omega
    rcases hk with rfl | rfl | rfl | rfl
    · exact okT_ok shown_3_0
    · exact okT_ok shown_3_1
    · exact okT_ok shown_3_2
    · exact okT_ok shown_3_3
  · have hk : k = 0 ∨ k = 1 ∨ k = 2 ∨ k = 3 ∨ k = 4 := by omega
    rcases hk with rfl | rfl | rfl | rfl | rfl
    · exact okT_ok shown_4_0
    · exact okT_ok shown_4_1
    · exact okT_ok shown_4_2
    · exact okT_ok shown_4_3
    · exact okT_ok shown_4_4
  · have hk : k = 0 ∨ k = 1 ∨ k = 2 ∨ k = 3 ∨ k = 4 ∨ k = 5 := by omega
    rcases hk with rfl | rfl | rfl | rfl | rfl | rfl
    · exact okT_ok shown_5_0
    · exact okT_ok shown_5_1
    · exact okT_ok shown_5_2
    · exact okT_ok shown_5_3
    · exact okT_ok shown_5_4
    · exact okT_ok shown_5_5
  · have hk : k = 0 ∨ k = 1 ∨ k = 2 ∨ k = 3 ∨ k = 4 ∨ k = 5 ∨ k = 6 := by omega
    rcases hk with rfl | rfl | rfl | rfl | rfl | rfl | rfl
    · exact okT_ok shown_6_0
    · exact okT_ok shown_6_1
    · exact okT_ok shown_6_2
    · exact okT_ok shown_6_3
    · exact okT_ok shown_6_4
    · exact okT_ok shown_6_5
    · exact okT_ok shown_6_6

end LW
end
section
open PySem PySem.W PyProof.Rows
namespace LW
open PySem PySem.Spec PyProof.Rows L2 DL

/-! ### the head -/
theorem all_mk {w : World} {K : PySem.W.Frag} {h : Heap} {mg : Str → Option Value} {fa : Addr} (X : K.In h) (G : h.Ns mainGlobals mg) (hfa : mg "law" = some (.ref fa))
    {f0 : Addr} {od0 an0 : Option Addr} {sl0 : Array (Option Value)} {oc0 kV0 dc0 pm0 cd0 ct0 : Value}
    (a0 : PySem.W.nsIn K mainGlobals "_law_dice" = some (some (.ref f0))) (l0 : K.lookup f0 = some ⟨oc0, od0, .func (PySem.W.fnOf "_law_dice" "_law_dice" (defArgs s__law_dice) (defBody s__law_dice) (defScope s__law_dice) .none kV0 dc0 pm0 an0 cd0 ct0), sl0⟩) (c0 : PySem.W.codeIn K cd0 "_law_dice" = true) (k0 : PySem.W.keepIn K (.ref f0) = true)
    {f1 : Addr} {od1 an1 : Option Addr} {sl1 : Array (Option Value)} {oc1 kV1 dc1 pm1 cd1 ct1 : Value}
    (a1 : PySem.W.nsIn K mainGlobals "_law_roll" = some (some (.ref f1))) (l1 : K.lookup f1 = some ⟨oc1, od1, .func (PySem.W.fnOf "_law_roll" "_law_roll" (defArgs s__law_roll) (defBody s__law_roll) (defScope s__law_roll) .none kV1 dc1 pm1 an1 cd1 ct1), sl1⟩) (c1 : PySem.W.codeIn K cd1 "_law_roll" = true) (k1 : PySem.W.keepIn K (.ref f1) = true)
    {f2 : Addr} {od2 an2 : Option Addr} {sl2 : Array (Option Value)} {oc2 kV2 dc2 pm2 cd2 ct2 : Value}
    (a2 : PySem.W.nsIn K mainGlobals "_law_parts" = some (some (.ref f2))) (l2 : K.lookup f2 = some ⟨oc2, od2, .func (PySem.W.fnOf "_law_parts" "_law_parts" (defArgs s__law_parts) (defBody s__law_parts) (defScope s__law_parts) .none kV2 dc2 pm2 an2 cd2 ct2), sl2⟩) (c2 : PySem.W.codeIn K cd2 "_law_parts" = true) (k2 : PySem.W.keepIn K (.ref f2) = true)
    {f3 : Addr} {od3 an3 : Option Addr} {sl3 : Array (Option Value)} {oc3 kV3 dc3 pm3 cd3 ct3 : Value}
    (a3 : PySem.W.nsIn K mainGlobals "_law_all_lots" = some (some (.ref f3))) (l3 : K.lookup f3 = some ⟨oc3, od3, .func (PySem.W.fnOf "_law_all_lots" "_law_all_lots" (defArgs s__law_all_lots) (defBody s__law_all_lots) (defScope s__law_all_lots) .none kV3 dc3 pm3 an3 cd3 ct3), sl3⟩) (c3 : PySem.W.codeIn K cd3 "_law_all_lots" = true) (k3 : PySem.W.keepIn K (.ref f3) = true)
    {f4 : Addr} {od4 an4 : Option Addr} {sl4 : Array (Option Value)} {oc4 kV4 dc4 pm4 cd4 ct4 : Value}
    (a4 : PySem.W.nsIn K mainGlobals "_law_md_changes" = some (some (.ref f4))) (l4 : K.lookup f4 = some ⟨oc4, od4, .func (PySem.W.fnOf "_law_md_changes" "_law_md_changes" (defArgs s__law_md_changes) (defBody s__law_md_changes) (defScope s__law_md_changes) .none kV4 dc4 pm4 an4 cd4 ct4), sl4⟩) (c4 : PySem.W.codeIn K cd4 "_law_md_changes" = true) (k4 : PySem.W.keepIn K (.ref f4) = true)
    {f5 : Addr} {od5 an5 : Option Addr} {sl5 : Array (Option Value)} {oc5 kV5 dc5 pm5 cd5 ct5 : Value}
    (a5 : PySem.W.nsIn K mainGlobals "is_whole" = some (some (.ref f5))) (l5 : K.lookup f5 = some ⟨oc5, od5, .func (PySem.W.fnOf "is_whole" "is_whole" (defArgs s_is_whole) (defBody s_is_whole) (defScope s_is_whole) .none kV5 dc5 pm5 an5 cd5 ct5), sl5⟩) (c5 : PySem.W.codeIn K cd5 "is_whole" = true) (k5 : PySem.W.keepIn K (.ref f5) = true)
    {f6 : Addr} {od6 an6 : Option Addr} {sl6 : Array (Option Value)} {oc6 kV6 dc6 pm6 cd6 ct6 : Value}
    (a6 : PySem.W.nsIn K mainGlobals "is_near" = some (some (.ref f6))) (l6 : K.lookup f6 = some ⟨oc6, od6, .func (PySem.W.fnOf "is_near" "is_near" (defArgs s_is_near) (defBody s_is_near) (defScope s_is_near) .none kV6 dc6 pm6 an6 cd6 ct6), sl6⟩) (c6 : PySem.W.codeIn K cd6 "is_near" = true) (k6 : PySem.W.keepIn K (.ref f6) = true)
    {f7 : Addr} {od7 an7 : Option Addr} {sl7 : Array (Option Value)} {oc7 kV7 dc7 pm7 cd7 ct7 : Value}
    (a7 : PySem.W.nsIn K mainGlobals "require_number" = some (some (.ref f7))) (l7 : K.lookup f7 = some ⟨oc7, od7, .func (PySem.W.fnOf "require_number" "require_number" (defArgs s_require_number) (defBody s_require_number) (defScope s_require_number) .none kV7 dc7 pm7 an7 cd7 ct7), sl7⟩) (c7 : PySem.W.codeIn K cd7 "require_number" = true) (k7 : PySem.W.keepIn K (.ref f7) = true)
    {f8 : Addr} {od8 an8 : Option Addr} {sl8 : Array (Option Value)} {oc8 kV8 dc8 pm8 cd8 ct8 : Value}
    (a8 : PySem.W.nsIn K mainGlobals "require_things" = some (some (.ref f8))) (l8 : K.lookup f8 = some ⟨oc8, od8, .func (PySem.W.fnOf "require_things" "require_things" (defArgs s_require_things) (defBody s_require_things) (defScope s_require_things) .none kV8 dc8 pm8 an8 cd8 ct8), sl8⟩) (c8 : PySem.W.codeIn K cd8 "require_things" = true) (k8 : PySem.W.keepIn K (.ref f8) = true)
    {f9 : Addr} {od9 an9 : Option Addr} {sl9 : Array (Option Value)} {oc9 kV9 dc9 pm9 cd9 ct9 : Value}
    (a9 : PySem.W.nsIn K mainGlobals "lot_of" = some (some (.ref f9))) (l9 : K.lookup f9 = some ⟨oc9, od9, .func (PySem.W.fnOf "lot_of" "lot_of" (defArgs s_lot_of) (defBody s_lot_of) (defScope s_lot_of) .none kV9 dc9 pm9 an9 cd9 ct9), sl9⟩) (c9 : PySem.W.codeIn K cd9 "lot_of" = true) (k9 : PySem.W.keepIn K (.ref f9) = true)
    {f10 : Addr} {od10 an10 : Option Addr} {sl10 : Array (Option Value)} {oc10 kV10 dc10 pm10 cd10 ct10 : Value}
    (a10 : PySem.W.nsIn K mainGlobals "family_by" = some (some (.ref f10))) (l10 : K.lookup f10 = some ⟨oc10, od10, .func (PySem.W.fnOf "family_by" "family_by" (defArgs s_family_by) (defBody s_family_by) (defScope s_family_by) .none kV10 dc10 pm10 an10 cd10 ct10), sl10⟩) (c10 : PySem.W.codeIn K cd10 "family_by" = true) (k10 : PySem.W.keepIn K (.ref f10) = true)
    {f11 : Addr} {od11 an11 : Option Addr} {sl11 : Array (Option Value)} {oc11 kV11 dc11 pm11 cd11 ct11 : Value}
    (a11 : PySem.W.nsIn K mainGlobals "thresholds" = some (some (.ref f11))) (l11 : K.lookup f11 = some ⟨oc11, od11, .func (PySem.W.fnOf "thresholds" "thresholds" (defArgs s_thresholds) (defBody s_thresholds) (defScope s_thresholds) .none kV11 dc11 pm11 an11 cd11 ct11), sl11⟩) (c11 : PySem.W.codeIn K cd11 "thresholds" = true) (k11 : PySem.W.keepIn K (.ref f11) = true)
    {f12 : Addr} {od12 an12 : Option Addr} {sl12 : Array (Option Value)} {oc12 kV12 dc12 pm12 cd12 ct12 : Value}
    (a12 : PySem.W.nsIn K mainGlobals "stretches_of" = some (some (.ref f12))) (l12 : K.lookup f12 = some ⟨oc12, od12, .func (PySem.W.fnOf "stretches_of" "stretches_of" (defArgs s_stretches_of) (defBody s_stretches_of) (defScope s_stretches_of) .none kV12 dc12 pm12 an12 cd12 ct12), sl12⟩) (c12 : PySem.W.codeIn K cd12 "stretches_of" = true) (k12 : PySem.W.keepIn K (.ref f12) = true)
    {f13 : Addr} {od13 an13 : Option Addr} {sl13 : Array (Option Value)} {oc13 kV13 dc13 pm13 cd13 ct13 : Value}
    (a13 : PySem.W.nsIn K mainGlobals "stretches" = some (some (.ref f13))) (l13 : K.lookup f13 = some ⟨oc13, od13, .func (PySem.W.fnOf "stretches" "stretches" (defArgs s_stretches) (defBody s_stretches) (defScope s_stretches) .none kV13 dc13 pm13 an13 cd13 ct13), sl13⟩) (c13 : PySem.W.codeIn K cd13 "stretches" = true) (k13 : PySem.W.keepIn K (.ref f13) = true)
    {f14 : Addr} {od14 an14 : Option Addr} {sl14 : Array (Option Value)} {oc14 kV14 dc14 pm14 cd14 ct14 : Value}
    (a14 : PySem.W.nsIn K mainGlobals "require_things_and_size" = some (some (.ref f14))) (l14 : K.lookup f14 = some ⟨oc14, od14, .func (PySem.W.fnOf "require_things_and_size" "require_things_and_size" (defArgs s_require_things_and_size) (defBody s_require_things_and_size) (defScope s_require_things_and_size) .none kV14 dc14 pm14 an14 cd14 ct14), sl14⟩) (c14 : PySem.W.codeIn K cd14 "require_things_and_size" = true) (k14 : PySem.W.keepIn K (.ref f14) = true)
    {f15 : Addr} {od15 an15 : Option Addr} {sl15 : Array (Option Value)} {oc15 kV15 dc15 pm15 cd15 ct15 : Value}
    (a15 : PySem.W.nsIn K mainGlobals "changes_of" = some (some (.ref f15))) (l15 : K.lookup f15 = some ⟨oc15, od15, .func (PySem.W.fnOf "changes_of" "changes_of" (defArgs s_changes_of) (defBody s_changes_of) (defScope s_changes_of) .none kV15 dc15 pm15 an15 cd15 ct15), sl15⟩) (c15 : PySem.W.codeIn K cd15 "changes_of" = true) (k15 : PySem.W.keepIn K (.ref f15) = true)
    {f16 : Addr} {od16 an16 : Option Addr} {sl16 : Array (Option Value)} {oc16 kV16 dc16 pm16 cd16 ct16 : Value}
    (a16 : PySem.W.nsIn K mainGlobals "up_to_changes" = some (some (.ref f16))) (l16 : K.lookup f16 = some ⟨oc16, od16, .func (PySem.W.fnOf "up_to_changes" "up_to_changes" (defArgs s_up_to_changes) (defBody s_up_to_changes) (defScope s_up_to_changes) .none kV16 dc16 pm16 an16 cd16 ct16), sl16⟩) (c16 : PySem.W.codeIn K cd16 "up_to_changes" = true) (k16 : PySem.W.keepIn K (.ref f16) = true)
    {f17 : Addr} {od17 an17 : Option Addr} {sl17 : Array (Option Value)} {oc17 kV17 dc17 pm17 cd17 ct17 : Value}
    (a17 : PySem.W.nsIn K mainGlobals "size_of" = some (some (.ref f17))) (l17 : K.lookup f17 = some ⟨oc17, od17, .func (PySem.W.fnOf "size_of" "size_of" (defArgs s_size_of) (defBody s_size_of) (defScope s_size_of) .none kV17 dc17 pm17 an17 cd17 ct17), sl17⟩) (c17 : PySem.W.codeIn K cd17 "size_of" = true) (k17 : PySem.W.keepIn K (.ref f17) = true)
    {f18 : Addr} {od18 an18 : Option Addr} {sl18 : Array (Option Value)} {oc18 kV18 dc18 pm18 cd18 ct18 : Value}
    (a18 : PySem.W.nsIn K mainGlobals "at_most" = some (some (.ref f18))) (l18 : K.lookup f18 = some ⟨oc18, od18, .func (PySem.W.fnOf "at_most" "at_most" (defArgs s_at_most) (defBody s_at_most) (defScope s_at_most) .none kV18 dc18 pm18 an18 cd18 ct18), sl18⟩) (c18 : PySem.W.codeIn K cd18 "at_most" = true) (k18 : PySem.W.keepIn K (.ref f18) = true)
    {f19 : Addr} {od19 an19 : Option Addr} {sl19 : Array (Option Value)} {oc19 kV19 dc19 pm19 cd19 ct19 : Value}
    (a19 : PySem.W.nsIn K mainGlobals "just" = some (some (.ref f19))) (l19 : K.lookup f19 = some ⟨oc19, od19, .func (PySem.W.fnOf "just" "just" (defArgs s_just) (defBody s_just) (defScope s_just) .none kV19 dc19 pm19 an19 cd19 ct19), sl19⟩) (c19 : PySem.W.codeIn K cd19 "just" = true) (k19 : PySem.W.keepIn K (.ref f19) = true)
    {f20 : Addr} {od20 an20 : Option Addr} {sl20 : Array (Option Value)} {oc20 kV20 dc20 pm20 cd20 ct20 : Value}
    (a20 : PySem.W.nsIn K mainGlobals "_law_ascending" = some (some (.ref f20))) (l20 : K.lookup f20 = some ⟨oc20, od20, .func (PySem.W.fnOf "_law_ascending" "_law_ascending" (defArgs s__law_ascending) (defBody s__law_ascending) (defScope s__law_ascending) .none kV20 dc20 pm20 an20 cd20 ct20), sl20⟩) (c20 : PySem.W.codeIn K cd20 "_law_ascending" = true) (k20 : PySem.W.keepIn K (.ref f20) = true)
    {f21 : Addr} {od21 an21 : Option Addr} {sl21 : Array (Option Value)} {oc21 kV21 dc21 pm21 cd21 ct21 : Value}
    (a21 : PySem.W.nsIn K mainGlobals "_law_family" = some (some (.ref f21))) (l21 : K.lookup f21 = some ⟨oc21, od21, .func (PySem.W.fnOf "_law_family" "_law_family" (defArgs s__law_family) (defBody s__law_family) (defScope s__law_family) .none kV21 dc21 pm21 an21 cd21 ct21), sl21⟩) (c21 : PySem.W.codeIn K cd21 "_law_family" = true) (k21 : PySem.W.keepIn K (.ref f21) = true)
    {f22 : Addr} {od22 an22 : Option Addr} {sl22 : Array (Option Value)} {oc22 kV22 dc22 pm22 cd22 ct22 : Value}
    (a22 : PySem.W.nsIn K mainGlobals "_law_thresholds" = some (some (.ref f22))) (l22 : K.lookup f22 = some ⟨oc22, od22, .func (PySem.W.fnOf "_law_thresholds" "_law_thresholds" (defArgs s__law_thresholds) (defBody s__law_thresholds) (defScope s__law_thresholds) .none kV22 dc22 pm22 an22 cd22 ct22), sl22⟩) (c22 : PySem.W.codeIn K cd22 "_law_thresholds" = true) (k22 : PySem.W.keepIn K (.ref f22) = true)
    {f23 : Addr} {od23 an23 : Option Addr} {sl23 : Array (Option Value)} {oc23 kV23 dc23 pm23 cd23 ct23 : Value}
    (a23 : PySem.W.nsIn K mainGlobals "_law_stretches" = some (some (.ref f23))) (l23 : K.lookup f23 = some ⟨oc23, od23, .func (PySem.W.fnOf "_law_stretches" "_law_stretches" (defArgs s__law_stretches) (defBody s__law_stretches) (defScope s__law_stretches) .none kV23 dc23 pm23 an23 cd23 ct23), sl23⟩) (c23 : PySem.W.codeIn K cd23 "_law_stretches" = true) (k23 : PySem.W.keepIn K (.ref f23) = true)
    {f24 : Addr} {od24 an24 : Option Addr} {sl24 : Array (Option Value)} {oc24 kV24 dc24 pm24 cd24 ct24 : Value}
    (a24 : PySem.W.nsIn K mainGlobals "_law_at_most" = some (some (.ref f24))) (l24 : K.lookup f24 = some ⟨oc24, od24, .func (PySem.W.fnOf "_law_at_most" "_law_at_most" (defArgs s__law_at_most) (defBody s__law_at_most) (defScope s__law_at_most) .none kV24 dc24 pm24 an24 cd24 ct24), sl24⟩) (c24 : PySem.W.codeIn K cd24 "_law_at_most" = true) (k24 : PySem.W.keepIn K (.ref f24) = true)
    {f25 : Addr} {od25 an25 : Option Addr} {sl25 : Array (Option Value)} {oc25 kV25 dc25 pm25 cd25 ct25 : Value}
    (a25 : PySem.W.nsIn K mainGlobals "_law_cr_choose" = some (some (.ref f25))) (l25 : K.lookup f25 = some ⟨oc25, od25, .func (PySem.W.fnOf "_law_cr_choose" "_law_cr_choose" (defArgs s__law_cr_choose) (defBody s__law_cr_choose) (defScope s__law_cr_choose) .none kV25 dc25 pm25 an25 cd25 ct25), sl25⟩) (c25 : PySem.W.codeIn K cd25 "_law_cr_choose" = true) (k25 : PySem.W.keepIn K (.ref f25) = true)
    {f26 : Addr} {od26 an26 : Option Addr} {sl26 : Array (Option Value)} {oc26 kV26 dc26 pm26 cd26 ct26 : Value}
    (a26 : PySem.W.nsIn K mainGlobals "_law_sums_upto" = some (some (.ref f26))) (l26 : K.lookup f26 = some ⟨oc26, od26, .func (PySem.W.fnOf "_law_sums_upto" "_law_sums_upto" (defArgs s__law_sums_upto) (defBody s__law_sums_upto) (defScope s__law_sums_upto) .none kV26 dc26 pm26 an26 cd26 ct26), sl26⟩) (c26 : PySem.W.codeIn K cd26 "_law_sums_upto" = true) (k26 : PySem.W.keepIn K (.ref f26) = true)
    {f27 : Addr} {od27 an27 : Option Addr} {sl27 : Array (Option Value)} {oc27 kV27 dc27 pm27 cd27 ct27 : Value}
    (a27 : PySem.W.nsIn K mainGlobals "_law_lots_right" = some (some (.ref f27))) (l27 : K.lookup f27 = some ⟨oc27, od27, .func (PySem.W.fnOf "_law_lots_right" "_law_lots_right" (defArgs s__law_lots_right) (defBody s__law_lots_right) (defScope s__law_lots_right) .none kV27 dc27 pm27 an27 cd27 ct27), sl27⟩) (c27 : PySem.W.codeIn K cd27 "_law_lots_right" = true) (k27 : PySem.W.keepIn K (.ref f27) = true)
    {f28 : Addr} {od28 an28 : Option Addr} {sl28 : Array (Option Value)} {oc28 kV28 dc28 pm28 cd28 ct28 : Value}
    (a28 : PySem.W.nsIn K mainGlobals "is_within" = some (some (.ref f28))) (l28 : K.lookup f28 = some ⟨oc28, od28, .func (PySem.W.fnOf "is_within" "is_within" (defArgs s_is_within) (defBody s_is_within) (defScope s_is_within) .none kV28 dc28 pm28 an28 cd28 ct28), sl28⟩) (c28 : PySem.W.codeIn K cd28 "is_within" = true) (k28 : PySem.W.keepIn K (.ref f28) = true)
    {f29 : Addr} {od29 an29 : Option Addr} {sl29 : Array (Option Value)} {oc29 kV29 dc29 pm29 cd29 ct29 : Value}
    (a29 : PySem.W.nsIn K mainGlobals "is_row_of" = some (some (.ref f29))) (l29 : K.lookup f29 = some ⟨oc29, od29, .func (PySem.W.fnOf "is_row_of" "is_row_of" (defArgs s_is_row_of) (defBody s_is_row_of) (defScope s_is_row_of) .none kV29 dc29 pm29 an29 cd29 ct29), sl29⟩) (c29 : PySem.W.codeIn K cd29 "is_row_of" = true) (k29 : PySem.W.keepIn K (.ref f29) = true)
    {f30 : Addr} {od30 an30 : Option Addr} {sl30 : Array (Option Value)} {oc30 kV30 dc30 pm30 cd30 ct30 : Value}
    (a30 : PySem.W.nsIn K mainGlobals "is_ascending" = some (some (.ref f30))) (l30 : K.lookup f30 = some ⟨oc30, od30, .func (PySem.W.fnOf "is_ascending" "is_ascending" (defArgs s_is_ascending) (defBody s_is_ascending) (defScope s_is_ascending) .none kV30 dc30 pm30 an30 cd30 ct30), sl30⟩) (c30 : PySem.W.codeIn K cd30 "is_ascending" = true) (k30 : PySem.W.keepIn K (.ref f30) = true)
    {f31 : Addr} {od31 an31 : Option Addr} {sl31 : Array (Option Value)} {oc31 kV31 dc31 pm31 cd31 ct31 : Value}
    (a31 : PySem.W.nsIn K mainGlobals "is_rising_row" = some (some (.ref f31))) (l31 : K.lookup f31 = some ⟨oc31, od31, .func (PySem.W.fnOf "is_rising_row" "is_rising_row" (defArgs s_is_rising_row) (defBody s_is_rising_row) (defScope s_is_rising_row) .none kV31 dc31 pm31 an31 cd31 ct31), sl31⟩) (c31 : PySem.W.codeIn K cd31 "is_rising_row" = true) (k31 : PySem.W.keepIn K (.ref f31) = true)
    {f32 : Addr} {od32 an32 : Option Addr} {sl32 : Array (Option Value)} {oc32 kV32 dc32 pm32 cd32 ct32 : Value}
    (a32 : PySem.W.nsIn K mainGlobals "is_lot_in" = some (some (.ref f32))) (l32 : K.lookup f32 = some ⟨oc32, od32, .func (PySem.W.fnOf "is_lot_in" "is_lot_in" (defArgs s_is_lot_in) (defBody s_is_lot_in) (defScope s_is_lot_in) .none kV32 dc32 pm32 an32 cd32 ct32), sl32⟩) (c32 : PySem.W.codeIn K cd32 "is_lot_in" = true) (k32 : PySem.W.keepIn K (.ref f32) = true)
    {f33 : Addr} {od33 an33 : Option Addr} {sl33 : Array (Option Value)} {oc33 kV33 dc33 pm33 cd33 ct33 : Value}
    (a33 : PySem.W.nsIn K mainGlobals "is_family_in" = some (some (.ref f33))) (l33 : K.lookup f33 = some ⟨oc33, od33, .func (PySem.W.fnOf "is_family_in" "is_family_in" (defArgs s_is_family_in) (defBody s_is_family_in) (defScope s_is_family_in) .none kV33 dc33 pm33 an33 cd33 ct33), sl33⟩) (c33 : PySem.W.codeIn K cd33 "is_family_in" = true) (k33 : PySem.W.keepIn K (.ref f33) = true)
    {f34 : Addr} {od34 an34 : Option Addr} {sl34 : Array (Option Value)} {oc34 kV34 dc34 pm34 cd34 ct34 : Value}
    (a34 : PySem.W.nsIn K mainGlobals "require_family" = some (some (.ref f34))) (l34 : K.lookup f34 = some ⟨oc34, od34, .func (PySem.W.fnOf "require_family" "require_family" (defArgs s_require_family) (defBody s_require_family) (defScope s_require_family) .none kV34 dc34 pm34 an34 cd34 ct34), sl34⟩) (c34 : PySem.W.codeIn K cd34 "require_family" = true) (k34 : PySem.W.keepIn K (.ref f34) = true)
    {f35 : Addr} {od35 an35 : Option Addr} {sl35 : Array (Option Value)} {oc35 kV35 dc35 pm35 cd35 ct35 : Value}
    (a35 : PySem.W.nsIn K mainGlobals "marks_of" = some (some (.ref f35))) (l35 : K.lookup f35 = some ⟨oc35, od35, .func (PySem.W.fnOf "marks_of" "marks_of" (defArgs s_marks_of) (defBody s_marks_of) (defScope s_marks_of) .none kV35 dc35 pm35 an35 cd35 ct35), sl35⟩) (c35 : PySem.W.codeIn K cd35 "marks_of" = true) (k35 : PySem.W.keepIn K (.ref f35) = true)
    {f36 : Addr} {od36 an36 : Option Addr} {sl36 : Array (Option Value)} {oc36 kV36 dc36 pm36 cd36 ct36 : Value}
    (a36 : PySem.W.nsIn K mainGlobals "marks_in" = some (some (.ref f36))) (l36 : K.lookup f36 = some ⟨oc36, od36, .func (PySem.W.fnOf "marks_in" "marks_in" (defArgs s_marks_in) (defBody s_marks_in) (defScope s_marks_in) .none kV36 dc36 pm36 an36 cd36 ct36), sl36⟩) (c36 : PySem.W.codeIn K cd36 "marks_in" = true) (k36 : PySem.W.keepIn K (.ref f36) = true)
    {f37 : Addr} {od37 an37 : Option Addr} {sl37 : Array (Option Value)} {oc37 kV37 dc37 pm37 cd37 ct37 : Value}
    (a37 : PySem.W.nsIn K mainGlobals "traced" = some (some (.ref f37))) (l37 : K.lookup f37 = some ⟨oc37, od37, .func (PySem.W.fnOf "traced" "traced" (defArgs s_traced) (defBody s_traced) (defScope s_traced) .none kV37 dc37 pm37 an37 cd37 ct37), sl37⟩) (c37 : PySem.W.codeIn K cd37 "traced" = true) (k37 : PySem.W.keepIn K (.ref f37) = true)
    {f38 : Addr} {od38 an38 : Option Addr} {sl38 : Array (Option Value)} {oc38 kV38 dc38 pm38 cd38 ct38 : Value}
    (a38 : PySem.W.nsIn K mainGlobals "shown_in" = some (some (.ref f38))) (l38 : K.lookup f38 = some ⟨oc38, od38, .func (PySem.W.fnOf "shown_in" "shown_in" (defArgs s_shown_in) (defBody s_shown_in) (defScope s_shown_in) .none kV38 dc38 pm38 an38 cd38 ct38), sl38⟩) (c38 : PySem.W.codeIn K cd38 "shown_in" = true) (k38 : PySem.W.keepIn K (.ref f38) = true)
    {f39 : Addr} {od39 an39 : Option Addr} {sl39 : Array (Option Value)} {oc39 kV39 dc39 pm39 cd39 ct39 : Value}
    (a39 : PySem.W.nsIn K mainGlobals "shown_parts_in" = some (some (.ref f39))) (l39 : K.lookup f39 = some ⟨oc39, od39, .func (PySem.W.fnOf "shown_parts_in" "shown_parts_in" (defArgs s_shown_parts_in) (defBody s_shown_parts_in) (defScope s_shown_parts_in) .none kV39 dc39 pm39 an39 cd39 ct39), sl39⟩) (c39 : PySem.W.codeIn K cd39 "shown_parts_in" = true) (k39 : PySem.W.keepIn K (.ref f39) = true)
    {f40 : Addr} {od40 an40 : Option Addr} {sl40 : Array (Option Value)} {oc40 kV40 dc40 pm40 cd40 ct40 : Value}
    (a40 : PySem.W.nsIn K mainGlobals "dimension_in" = some (some (.ref f40))) (l40 : K.lookup f40 = some ⟨oc40, od40, .func (PySem.W.fnOf "dimension_in" "dimension_in" (defArgs s_dimension_in) (defBody s_dimension_in) (defScope s_dimension_in) .none kV40 dc40 pm40 an40 cd40 ct40), sl40⟩) (c40 : PySem.W.codeIn K cd40 "dimension_in" = true) (k40 : PySem.W.keepIn K (.ref f40) = true)
    {f41 : Addr} {od41 an41 : Option Addr} {sl41 : Array (Option Value)} {oc41 kV41 dc41 pm41 cd41 ct41 : Value}
    (a41 : PySem.W.nsIn K mainGlobals "dimension" = some (some (.ref f41))) (l41 : K.lookup f41 = some ⟨oc41, od41, .func (PySem.W.fnOf "dimension" "dimension" (defArgs s_dimension) (defBody s_dimension) (defScope s_dimension) .none kV41 dc41 pm41 an41 cd41 ct41), sl41⟩) (c41 : PySem.W.codeIn K cd41 "dimension" = true) (k41 : PySem.W.keepIn K (.ref f41) = true)
    {f42 : Addr} {od42 an42 : Option Addr} {sl42 : Array (Option Value)} {oc42 kV42 dc42 pm42 cd42 ct42 : Value}
    (a42 : PySem.W.nsIn K mainGlobals "require_size" = some (some (.ref f42))) (l42 : K.lookup f42 = some ⟨oc42, od42, .func (PySem.W.fnOf "require_size" "require_size" (defArgs s_require_size) (defBody s_require_size) (defScope s_require_size) .none kV42 dc42 pm42 an42 cd42 ct42), sl42⟩) (c42 : PySem.W.codeIn K cd42 "require_size" = true) (k42 : PySem.W.keepIn K (.ref f42) = true)
    {f43 : Addr} {od43 an43 : Option Addr} {sl43 : Array (Option Value)} {oc43 kV43 dc43 pm43 cd43 ct43 : Value}
    (a43 : PySem.W.nsIn K mainGlobals "require_family_and_size" = some (some (.ref f43))) (l43 : K.lookup f43 = some ⟨oc43, od43, .func (PySem.W.fnOf "require_family_and_size" "require_family_and_size" (defArgs s_require_family_and_size) (defBody s_require_family_and_size) (defScope s_require_family_and_size) .none kV43 dc43 pm43 an43 cd43 ct43), sl43⟩) (c43 : PySem.W.codeIn K cd43 "require_family_and_size" = true) (k43 : PySem.W.keepIn K (.ref f43) = true)
    {f44 : Addr} {od44 an44 : Option Addr} {sl44 : Array (Option Value)} {oc44 kV44 dc44 pm44 cd44 ct44 : Value}
    (a44 : PySem.W.nsIn K mainGlobals "choose" = some (some (.ref f44))) (l44 : K.lookup f44 = some ⟨oc44, od44, .func (PySem.W.fnOf "choose" "choose" (defArgs s_choose) (defBody s_choose) (defScope s_choose) .none kV44 dc44 pm44 an44 cd44 ct44), sl44⟩) (c44 : PySem.W.codeIn K cd44 "choose" = true) (k44 : PySem.W.keepIn K (.ref f44) = true)
    {f45 : Addr} {od45 an45 : Option Addr} {sl45 : Array (Option Value)} {oc45 kV45 dc45 pm45 cd45 ct45 : Value}
    (a45 : PySem.W.nsIn K mainGlobals "sauer_in" = some (some (.ref f45))) (l45 : K.lookup f45 = some ⟨oc45, od45, .func (PySem.W.fnOf "sauer_in" "sauer_in" (defArgs s_sauer_in) (defBody s_sauer_in) (defScope s_sauer_in) .none kV45 dc45 pm45 an45 cd45 ct45), sl45⟩) (c45 : PySem.W.codeIn K cd45 "sauer_in" = true) (k45 : PySem.W.keepIn K (.ref f45) = true)
    {f46 : Addr} {od46 an46 : Option Addr} {sl46 : Array (Option Value)} {oc46 kV46 dc46 pm46 cd46 ct46 : Value}
    (a46 : PySem.W.nsIn K mainGlobals "is_small_in" = some (some (.ref f46))) (l46 : K.lookup f46 = some ⟨oc46, od46, .func (PySem.W.fnOf "is_small_in" "is_small_in" (defArgs s_is_small_in) (defBody s_is_small_in) (defScope s_is_small_in) .none kV46 dc46 pm46 an46 cd46 ct46), sl46⟩) (c46 : PySem.W.codeIn K cd46 "is_small_in" = true) (k46 : PySem.W.keepIn K (.ref f46) = true)
    {f47 : Addr} {od47 an47 : Option Addr} {sl47 : Array (Option Value)} {oc47 kV47 dc47 pm47 cd47 ct47 : Value}
    (a47 : PySem.W.nsIn K mainGlobals "is_greatest_in" = some (some (.ref f47))) (l47 : K.lookup f47 = some ⟨oc47, od47, .func (PySem.W.fnOf "is_greatest_in" "is_greatest_in" (defArgs s_is_greatest_in) (defBody s_is_greatest_in) (defScope s_is_greatest_in) .none kV47 dc47 pm47 an47 cd47 ct47), sl47⟩) (c47 : PySem.W.codeIn K cd47 "is_greatest_in" = true) (k47 : PySem.W.keepIn K (.ref f47) = true)
    {f48 : Addr} {od48 an48 : Option Addr} {sl48 : Array (Option Value)} {oc48 kV48 dc48 pm48 cd48 ct48 : Value}
    (a48 : PySem.W.nsIn K mainGlobals "is_greatest" = some (some (.ref f48))) (l48 : K.lookup f48 = some ⟨oc48, od48, .func (PySem.W.fnOf "is_greatest" "is_greatest" (defArgs s_is_greatest) (defBody s_is_greatest) (defScope s_is_greatest) .none kV48 dc48 pm48 an48 cd48 ct48), sl48⟩) (c48 : PySem.W.codeIn K cd48 "is_greatest" = true) (k48 : PySem.W.keepIn K (.ref f48) = true)
    {f49 : Addr} {od49 an49 : Option Addr} {sl49 : Array (Option Value)} {oc49 kV49 dc49 pm49 cd49 ct49 : Value}
    (a49 : PySem.W.nsIn K mainGlobals "is_extremal_in" = some (some (.ref f49))) (l49 : K.lookup f49 = some ⟨oc49, od49, .func (PySem.W.fnOf "is_extremal_in" "is_extremal_in" (defArgs s_is_extremal_in) (defBody s_is_extremal_in) (defScope s_is_extremal_in) .none kV49 dc49 pm49 an49 cd49 ct49), sl49⟩) (c49 : PySem.W.codeIn K cd49 "is_extremal_in" = true) (k49 : PySem.W.keepIn K (.ref f49) = true)
    {f50 : Addr} {od50 an50 : Option Addr} {sl50 : Array (Option Value)} {oc50 kV50 dc50 pm50 cd50 ct50 : Value}
    (a50 : PySem.W.nsIn K mainGlobals "is_extremal" = some (some (.ref f50))) (l50 : K.lookup f50 = some ⟨oc50, od50, .func (PySem.W.fnOf "is_extremal" "is_extremal" (defArgs s_is_extremal) (defBody s_is_extremal) (defScope s_is_extremal) .none kV50 dc50 pm50 an50 cd50 ct50), sl50⟩) (c50 : PySem.W.codeIn K cd50 "is_extremal" = true) (k50 : PySem.W.keepIn K (.ref f50) = true)
    {f51 : Addr} {od51 an51 : Option Addr} {sl51 : Array (Option Value)} {oc51 kV51 dc51 pm51 cd51 ct51 : Value}
    (a51 : PySem.W.nsIn K mainGlobals "shown_parts" = some (some (.ref f51))) (l51 : K.lookup f51 = some ⟨oc51, od51, .func (PySem.W.fnOf "shown_parts" "shown_parts" (defArgs s_shown_parts) (defBody s_shown_parts) (defScope s_shown_parts) .none kV51 dc51 pm51 an51 cd51 ct51), sl51⟩) (c51 : PySem.W.codeIn K cd51 "shown_parts" = true) (k51 : PySem.W.keepIn K (.ref f51) = true)
    {f52 : Addr} {od52 an52 : Option Addr} {sl52 : Array (Option Value)} {oc52 kV52 dc52 pm52 cd52 ct52 : Value}
    (a52 : PySem.W.nsIn K mainGlobals "_law_shown_right" = some (some (.ref f52))) (l52 : K.lookup f52 = some ⟨oc52, od52, .func (PySem.W.fnOf "_law_shown_right" "_law_shown_right" (defArgs s__law_shown_right) (defBody s__law_shown_right) (defScope s__law_shown_right) .none kV52 dc52 pm52 an52 cd52 ct52), sl52⟩) (c52 : PySem.W.codeIn K cd52 "_law_shown_right" = true) (k52 : PySem.W.keepIn K (.ref f52) = true)
    {f53 : Addr} {od53 an53 : Option Addr} {sl53 : Array (Option Value)} {oc53 kV53 dc53 pm53 cd53 ct53 : Value}
    (a53 : PySem.W.nsIn K mainGlobals "law" = some (some (.ref f53))) (l53 : K.lookup f53 = some ⟨oc53, od53, .func (PySem.W.fnOf "law" "law" (defArgs s_law) (defBody s_law) (defScope s_law) .none kV53 dc53 pm53 an53 cd53 ct53), sl53⟩) (c53 : PySem.W.codeIn K cd53 "law" = true) (k53 : PySem.W.keepIn K (.ref f53) = true)
    (z_abs : PySem.W.nsIn K mainGlobals "abs" = some none)
    (z_all : PySem.W.nsIn K mainGlobals "all" = some none)
    (z_bool : PySem.W.nsIn K mainGlobals "bool" = some none)
    (z_dict : PySem.W.nsIn K mainGlobals "dict" = some none)
    (z_int : PySem.W.nsIn K mainGlobals "int" = some none)
    (z_isinstance : PySem.W.nsIn K mainGlobals "isinstance" = some none)
    (z_len : PySem.W.nsIn K mainGlobals "len" = some none)
    (z_max : PySem.W.nsIn K mainGlobals "max" = some none)
    (z_min : PySem.W.nsIn K mainGlobals "min" = some none)
    (z_range : PySem.W.nsIn K mainGlobals "range" = some none)
    (z_repr : PySem.W.nsIn K mainGlobals "repr" = some none)
    (z_sorted : PySem.W.nsIn K mainGlobals "sorted" = some none)
    (z_sum : PySem.W.nsIn K mainGlobals "sum" = some none)
    (z_tuple : PySem.W.nsIn K mainGlobals "tuple" = some none)
    (z_zip : PySem.W.nsIn K mainGlobals "zip" = some none)
    {t_FAR : Tok} (e_FAR : PySem.W.nsIn K mainGlobals "FAR" = some (some (.int (1000000000000000000000000000000000000000000000000000000000000) t_FAR)))
    {t_LEAST_SIZE : Tok} (e_LEAST_SIZE : PySem.W.nsIn K mainGlobals "LEAST_SIZE" = some (some (.int (-1) t_LEAST_SIZE)))
    {t_MOST_SIZE : Tok} (e_MOST_SIZE : PySem.W.nsIn K mainGlobals "MOST_SIZE" = some (some (.int (10) t_MOST_SIZE)))
    {t_MOST_THINGS : Tok} (e_MOST_THINGS : PySem.W.nsIn K mainGlobals "MOST_THINGS" = some (some (.int (10) t_MOST_THINGS)))
    {t_PAIR_SIZE : Tok} (e_PAIR_SIZE : PySem.W.nsIn K mainGlobals "PAIR_SIZE" = some (some (.int (2) t_PAIR_SIZE)))
    : ∃ fd : FuncData, (∀ (s : Shared) (v : Value), BindsTo s fd ⟨[v], []⟩ [("script", v)]) ∧ ∀ base : Heap, K.In base → base.Ns mainGlobals mg → FnG PP w K mg base 11 fa fd ["script"] (spLaw K 63 r_law) := by
  have e := hfa.symm.trans (PySem.W.mg_of X G a53)
  cases e
  have F0 := fun_mk (st := s__law_dice) l0 c0 k0
  have F1 := fun_mk (st := s__law_roll) l1 c1 k1
  have F2 := fun_mk (st := s__law_parts) l2 c2 k2
  have F3 := fun_mk (st := s__law_all_lots) l3 c3 k3
  have F4 := fun_mk (st := s__law_md_changes) l4 c4 k4
  have F5 := fun_mk (st := s_is_whole) l5 c5 k5
  have F6 := fun_mk (st := s_is_near) l6 c6 k6
  have F7 := fun_mk (st := s_require_number) l7 c7 k7
  have F8 := fun_mk (st := s_require_things) l8 c8 k8
  have F9 := fun_mk (st := s_lot_of) l9 c9 k9
  have F10 := fun_mk (st := s_family_by) l10 c10 k10
  have F11 := fun_mk (st := s_thresholds) l11 c11 k11
  have F12 := fun_mk (st := s_stretches_of) l12 c12 k12
  have F13 := fun_mk (st := s_stretches) l13 c13 k13
  have F14 := fun_mk (st := s_require_things_and_size) l14 c14 k14
  have F15 := fun_mk (st := s_changes_of) l15 c15 k15
  have F16 := fun_mk (st := s_up_to_changes) l16 c16 k16
  have F17 := fun_mk (st := s_size_of) l17 c17 k17
  have F18 := fun_mk (st := s_at_most) l18 c18 k18
  have F19 := fun_mk (st := s_just) l19 c19 k19
  have F20 := fun_mk (st := s__law_ascending) l20 c20 k20
  have F21 := fun_mk (st := s__law_family) l21 c21 k21
  have F22 := fun_mk (st := s__law_thresholds) l22 c22 k22
  have F23 := fun_mk (st := s__law_stretches) l23 c23 k23
  have F24 := fun_mk (st := s__law_at_most) l24 c24 k24
  have F25 := fun_mk (st := s__law_cr_choose) l25 c25 k25
  have F26 := fun_mk (st := s__law_sums_upto) l26 c26 k26
  have F27 := fun_mk (st := s__law_lots_right) l27 c27 k27
  have F28 := fun_mk (st := s_is_within) l28 c28 k28
  have F29 := fun_mk (st := s_is_row_of) l29 c29 k29
  have F30 := fun_mk (st := s_is_ascending) l30 c30 k30
  have F31 := fun_mk (st := s_is_rising_row) l31 c31 k31
  have F32 := fun_mk (st := s_is_lot_in) l32 c32 k32
  have F33 := fun_mk (st := s_is_family_in) l33 c33 k33
  have F34 := fun_mk (st := s_require_family) l34 c34 k34
  have F35 := fun_mk (st := s_marks_of) l35 c35 k35
  have F36 := fun_mk (st := s_marks_in) l36 c36 k36
  have F37 := fun_mk (st := s_traced) l37 c37 k37
  have F38 := fun_mk (st := s_shown_in) l38 c38 k38
  have F39 := fun_mk (st := s_shown_parts_in) l39 c39 k39
  have F40 := fun_mk (st := s_dimension_in) l40 c40 k40
  have F41 := fun_mk (st := s_dimension) l41 c41 k41
  have F42 := fun_mk (st := s_require_size) l42 c42 k42
  have F43 := fun_mk (st := s_require_family_and_size) l43 c43 k43
  have F44 := fun_mk (st := s_choose) l44 c44 k44
  have F45 := fun_mk (st := s_sauer_in) l45 c45 k45
  have F46 := fun_mk (st := s_is_small_in) l46 c46 k46
  have F47 := fun_mk (st := s_is_greatest_in) l47 c47 k47
  have F48 := fun_mk (st := s_is_greatest) l48 c48 k48
  have F49 := fun_mk (st := s_is_extremal_in) l49 c49 k49
  have F50 := fun_mk (st := s_is_extremal) l50 c50 k50
  have F51 := fun_mk (st := s_shown_parts) l51 c51 k51
  have F52 := fun_mk (st := s__law_shown_right) l52 c52 k52
  have F53 := fun_mk (st := s_law) l53 c53 k53
  let T : Facts K mg := {
    f__law_dice := f0, d__law_dice := _, F__law_dice := F0, g__law_dice := PySem.W.mg_of X G a0, b__law_dice := F0.binds (ps := ["script", "spot"]) fun _ _ _ _ _ _ us hl => match us, hl with | [_, _], _ => rfl
    f__law_roll := f1, d__law_roll := _, F__law_roll := F1, g__law_roll := PySem.W.mg_of X G a1, b__law_roll := F1.binds (ps := ["dice", "total"]) fun _ _ _ _ _ _ us hl => match us, hl with | [_, _], _ => rfl
    f__law_parts := f2, d__law_parts := _, F__law_parts := F2, g__law_parts := PySem.W.mg_of X G a2, b__law_parts := F2.binds (ps := ["lot"]) fun _ _ _ _ _ _ us hl => match us, hl with | [_], _ => rfl
    f__law_all_lots := f3, d__law_all_lots := _, F__law_all_lots := F3, g__law_all_lots := PySem.W.mg_of X G a3, b__law_all_lots := F3.binds (ps := ["n"]) fun _ _ _ _ _ _ us hl => match us, hl with | [_], _ => rfl
    f__law_md_changes := f4, d__law_md_changes := _, F__law_md_changes := F4, g__law_md_changes := PySem.W.mg_of X G a4, b__law_md_changes := F4.binds (ps := ["n", "lot"]) fun _ _ _ _ _ _ us hl => match us, hl with | [_, _], _ => rfl
    f_is_whole := f5, d_is_whole := _, F_is_whole := F5, g_is_whole := PySem.W.mg_of X G a5, b_is_whole := F5.binds (ps := ["value"]) fun _ _ _ _ _ _ us hl => match us, hl with | [_], _ => rfl
    f_is_near := f6, d_is_near := _, F_is_near := F6, g_is_near := PySem.W.mg_of X G a6, b_is_near := F6.binds (ps := ["value"]) fun _ _ _ _ _ _ us hl => match us, hl with | [_], _ => rfl
    f_require_number := f7, d_require_number := _, F_require_number := F7, g_require_number := PySem.W.mg_of X G a7, b_require_number := F7.binds (ps := ["value", "least", "most"]) fun _ _ _ _ _ _ us hl => match us, hl with | [_, _, _], _ => rfl
    f_require_things := f8, d_require_things := _, F_require_things := F8, g_require_things := PySem.W.mg_of X G a8, b_require_things := F8.binds (ps := ["n"]) fun _ _ _ _ _ _ us hl => match us, hl with | [_], _ => rfl
    f_lot_of := f9, d_lot_of := _, F_lot_of := F9, g_lot_of := PySem.W.mg_of X G a9, b_lot_of := F9.binds (ps := ["marks"]) fun _ _ _ _ _ _ us hl => match us, hl with | [_], _ => rfl
    f_family_by := f10, d_family_by := _, F_family_by := F10, g_family_by := PySem.W.mg_of X G a10, b_family_by := F10.binds (ps := ["n", "marks"]) fun _ _ _ _ _ _ us hl => match us, hl with | [_, _], _ => rfl
    f_thresholds := f11, d_thresholds := _, F_thresholds := F11, g_thresholds := PySem.W.mg_of X G a11, b_thresholds := F11.binds (ps := ["n"]) fun _ _ _ _ _ _ us hl => match us, hl with | [_], _ => rfl
    f_stretches_of := f12, d_stretches_of := _, F_stretches_of := F12, g_stretches_of := PySem.W.mg_of X G a12, b_stretches_of := F12.binds (ps := ["n"]) fun _ _ _ _ _ _ us hl => match us, hl with | [_], _ => rfl
    f_stretches := f13, d_stretches := _, F_stretches := F13, g_stretches := PySem.W.mg_of X G a13, b_stretches := F13.binds (ps := ["n"]) fun _ _ _ _ _ _ us hl => match us, hl with | [_], _ => rfl
    f_require_things_and_size := f14, d_require_things_and_size := _, F_require_things_and_size := F14, g_require_things_and_size := PySem.W.mg_of X G a14, b_require_things_and_size := F14.binds (ps := ["n", "k"]) fun _ _ _ _ _ _ us hl => match us, hl with | [_, _], _ => rfl
    f_changes_of := f15, d_changes_of := _, F_changes_of := F15, g_changes_of := PySem.W.mg_of X G a15, b_changes_of := F15.binds (ps := ["n", "one"]) fun _ _ _ _ _ _ us hl => match us, hl with | [_, _], _ => rfl
    f_up_to_changes := f16, d_up_to_changes := _, F_up_to_changes := F16, g_up_to_changes := PySem.W.mg_of X G a16, b_up_to_changes := F16.binds (ps := ["n", "k"]) fun _ _ _ _ _ _ us hl => match us, hl with | [_, _], _ => rfl
    f_size_of := f17, d_size_of := _, F_size_of := F17, g_size_of := PySem.W.mg_of X G a17, b_size_of := F17.binds (ps := ["part"]) fun _ _ _ _ _ _ us hl => match us, hl with | [_], _ => rfl
    f_at_most := f18, d_at_most := _, F_at_most := F18, g_at_most := PySem.W.mg_of X G a18, b_at_most := F18.binds (ps := ["n", "k"]) fun _ _ _ _ _ _ us hl => match us, hl with | [_, _], _ => rfl
    f_just := f19, d_just := _, F_just := F19, g_just := PySem.W.mg_of X G a19, b_just := F19.binds (ps := ["n", "k"]) fun _ _ _ _ _ _ us hl => match us, hl with | [_, _], _ => rfl
    f__law_ascending := f20, d__law_ascending := _, F__law_ascending := F20, g__law_ascending := PySem.W.mg_of X G a20, b__law_ascending := F20.binds (ps := ["items"]) fun _ _ _ _ _ _ us hl => match us, hl with | [_], _ => rfl
    f__law_family := f21, d__law_family := _, F__law_family := F21, g__law_family := PySem.W.mg_of X G a21, b__law_family := F21.binds (ps := ["n", "lots"]) fun _ _ _ _ _ _ us hl => match us, hl with | [_, _], _ => rfl
    f__law_thresholds := f22, d__law_thresholds := _, F__law_thresholds := F22, g__law_thresholds := PySem.W.mg_of X G a22, b__law_thresholds := F22.binds (ps := ["n"]) fun _ _ _ _ _ _ us hl => match us, hl with | [_], _ => rfl
    f__law_stretches := f23, d__law_stretches := _, F__law_stretches := F23, g__law_stretches := PySem.W.mg_of X G a23, b__law_stretches := F23.binds (ps := ["n"]) fun _ _ _ _ _ _ us hl => match us, hl with | [_], _ => rfl
    f__law_at_most := f24, d__law_at_most := _, F__law_at_most := F24, g__law_at_most := PySem.W.mg_of X G a24, b__law_at_most := F24.binds (ps := ["n", "d"]) fun _ _ _ _ _ _ us hl => match us, hl with | [_, _], _ => rfl
    f__law_cr_choose := f25, d__law_cr_choose := _, F__law_cr_choose := F25, g__law_cr_choose := PySem.W.mg_of X G a25, b__law_cr_choose := F25.binds (ps := ["n", "k"]) fun _ _ _ _ _ _ us hl => match us, hl with | [_, _], _ => rfl
    f__law_sums_upto := f26, d__law_sums_upto := _, F__law_sums_upto := F26, g__law_sums_upto := PySem.W.mg_of X G a26, b__law_sums_upto := F26.binds (ps := ["n", "k"]) fun _ _ _ _ _ _ us hl => match us, hl with | [_, _], _ => rfl
    f__law_lots_right := f27, d__law_lots_right := _, F__law_lots_right := F27, g__law_lots_right := PySem.W.mg_of X G a27, b__law_lots_right := F27.binds (ps := ["n", "k"]) fun _ _ _ _ _ _ us hl => match us, hl with | [_, _], _ => rfl
    f_is_within := f28, d_is_within := _, F_is_within := F28, g_is_within := PySem.W.mg_of X G a28, b_is_within := F28.binds (ps := ["value", "least", "most"]) fun _ _ _ _ _ _ us hl => match us, hl with | [_, _, _], _ => rfl
    f_is_row_of := f29, d_is_row_of := _, F_is_row_of := F29, g_is_row_of := PySem.W.mg_of X G a29, b_is_row_of := F29.binds (ps := ["value", "least", "most"]) fun _ _ _ _ _ _ us hl => match us, hl with | [_, _, _], _ => rfl
    f_is_ascending := f30, d_is_ascending := _, F_is_ascending := F30, g_is_ascending := PySem.W.mg_of X G a30, b_is_ascending := F30.binds (ps := ["items"]) fun _ _ _ _ _ _ us hl => match us, hl with | [_], _ => rfl
    f_is_rising_row := f31, d_is_rising_row := _, F_is_rising_row := F31, g_is_rising_row := PySem.W.mg_of X G a31, b_is_rising_row := F31.binds (ps := ["value", "most"]) fun _ _ _ _ _ _ us hl => match us, hl with | [_, _], _ => rfl
    f_is_lot_in := f32, d_is_lot_in := _, F_is_lot_in := F32, g_is_lot_in := PySem.W.mg_of X G a32, b_is_lot_in := F32.binds (ps := ["n", "value"]) fun _ _ _ _ _ _ us hl => match us, hl with | [_, _], _ => rfl
    f_is_family_in := f33, d_is_family_in := _, F_is_family_in := F33, g_is_family_in := PySem.W.mg_of X G a33, b_is_family_in := F33.binds (ps := ["value"]) fun _ _ _ _ _ _ us hl => match us, hl with | [_], _ => rfl
    f_require_family := f34, d_require_family := _, F_require_family := F34, g_require_family := PySem.W.mg_of X G a34, b_require_family := F34.binds (ps := ["value"]) fun _ _ _ _ _ _ us hl => match us, hl with | [_], _ => rfl
    f_marks_of := f35, d_marks_of := _, F_marks_of := F35, g_marks_of := PySem.W.mg_of X G a35, b_marks_of := F35.binds (ps := ["lot"]) fun _ _ _ _ _ _ us hl => match us, hl with | [_], _ => rfl
    f_marks_in := f36, d_marks_in := _, F_marks_in := F36, g_marks_in := PySem.W.mg_of X G a36, b_marks_in := F36.binds (ps := ["family"]) fun _ _ _ _ _ _ us hl => match us, hl with | [_], _ => rfl
    f_traced := f37, d_traced := _, F_traced := F37, g_traced := PySem.W.mg_of X G a37, b_traced := F37.binds (ps := ["marks", "part"]) fun _ _ _ _ _ _ us hl => match us, hl with | [_, _], _ => rfl
    f_shown_in := f38, d_shown_in := _, F_shown_in := F38, g_shown_in := PySem.W.mg_of X G a38, b_shown_in := F38.binds (ps := ["n", "marks", "part"]) fun _ _ _ _ _ _ us hl => match us, hl with | [_, _, _], _ => rfl
    f_shown_parts_in := f39, d_shown_parts_in := _, F_shown_parts_in := F39, g_shown_parts_in := PySem.W.mg_of X G a39, b_shown_parts_in := F39.binds (ps := ["n", "marks"]) fun _ _ _ _ _ _ us hl => match us, hl with | [_, _], _ => rfl
    f_dimension_in := f40, d_dimension_in := _, F_dimension_in := F40, g_dimension_in := PySem.W.mg_of X G a40, b_dimension_in := F40.binds (ps := ["n", "marks"]) fun _ _ _ _ _ _ us hl => match us, hl with | [_, _], _ => rfl
    f_dimension := f41, d_dimension := _, F_dimension := F41, g_dimension := PySem.W.mg_of X G a41, b_dimension := F41.binds (ps := ["family"]) fun _ _ _ _ _ _ us hl => match us, hl with | [_], _ => rfl
    f_require_size := f42, d_require_size := _, F_require_size := F42, g_require_size := PySem.W.mg_of X G a42, b_require_size := F42.binds (ps := ["d"]) fun _ _ _ _ _ _ us hl => match us, hl with | [_], _ => rfl
    f_require_family_and_size := f43, d_require_family_and_size := _, F_require_family_and_size := F43, g_require_family_and_size := PySem.W.mg_of X G a43, b_require_family_and_size := F43.binds (ps := ["family", "d"]) fun _ _ _ _ _ _ us hl => match us, hl with | [_, _], _ => rfl
    f_choose := f44, d_choose := _, F_choose := F44, g_choose := PySem.W.mg_of X G a44, b_choose := F44.binds (ps := ["many", "few"]) fun _ _ _ _ _ _ us hl => match us, hl with | [_, _], _ => rfl
    f_sauer_in := f45, d_sauer_in := _, F_sauer_in := F45, g_sauer_in := PySem.W.mg_of X G a45, b_sauer_in := F45.binds (ps := ["n", "d"]) fun _ _ _ _ _ _ us hl => match us, hl with | [_, _], _ => rfl
    f_is_small_in := f46, d_is_small_in := _, F_is_small_in := F46, g_is_small_in := PySem.W.mg_of X G a46, b_is_small_in := F46.binds (ps := ["n", "marks", "d"]) fun _ _ _ _ _ _ us hl => match us, hl with | [_, _, _], _ => rfl
    f_is_greatest_in := f47, d_is_greatest_in := _, F_is_greatest_in := F47, g_is_greatest_in := PySem.W.mg_of X G a47, b_is_greatest_in := F47.binds (ps := ["n", "marks", "d"]) fun _ _ _ _ _ _ us hl => match us, hl with | [_, _, _], _ => rfl
    f_is_greatest := f48, d_is_greatest := _, F_is_greatest := F48, g_is_greatest := PySem.W.mg_of X G a48, b_is_greatest := F48.binds (ps := ["family", "d"]) fun _ _ _ _ _ _ us hl => match us, hl with | [_, _], _ => rfl
    f_is_extremal_in := f49, d_is_extremal_in := _, F_is_extremal_in := F49, g_is_extremal_in := PySem.W.mg_of X G a49, b_is_extremal_in := F49.binds (ps := ["n", "marks"]) fun _ _ _ _ _ _ us hl => match us, hl with | [_, _], _ => rfl
    f_is_extremal := f50, d_is_extremal := _, F_is_extremal := F50, g_is_extremal := PySem.W.mg_of X G a50, b_is_extremal := F50.binds (ps := ["family"]) fun _ _ _ _ _ _ us hl => match us, hl with | [_], _ => rfl
    f_shown_parts := f51, d_shown_parts := _, F_shown_parts := F51, g_shown_parts := PySem.W.mg_of X G a51, b_shown_parts := F51.binds (ps := ["family"]) fun _ _ _ _ _ _ us hl => match us, hl with | [_], _ => rfl
    f__law_shown_right := f52, d__law_shown_right := _, F__law_shown_right := F52, g__law_shown_right := PySem.W.mg_of X G a52, b__law_shown_right := F52.binds (ps := ["n", "k"]) fun _ _ _ _ _ _ us hl => match us, hl with | [_, _], _ => rfl
    f_law := fa, d_law := _, F_law := F53, g_law := PySem.W.mg_of X G a53, b_law := F53.binds (ps := ["script"]) fun _ _ _ _ _ _ us hl => match us, hl with | [_], _ => rfl
    z_abs := PySem.W.mg_none_of X G z_abs
    z_all := PySem.W.mg_none_of X G z_all
    z_bool := PySem.W.mg_none_of X G z_bool
    z_dict := PySem.W.mg_none_of X G z_dict
    z_int := PySem.W.mg_none_of X G z_int
    z_isinstance := PySem.W.mg_none_of X G z_isinstance
    z_len := PySem.W.mg_none_of X G z_len
    z_max := PySem.W.mg_none_of X G z_max
    z_min := PySem.W.mg_none_of X G z_min
    z_range := PySem.W.mg_none_of X G z_range
    z_repr := PySem.W.mg_none_of X G z_repr
    z_sorted := PySem.W.mg_none_of X G z_sorted
    z_sum := PySem.W.mg_none_of X G z_sum
    z_tuple := PySem.W.mg_none_of X G z_tuple
    z_zip := PySem.W.mg_none_of X G z_zip
    t_FAR := t_FAR, c_FAR := PySem.W.mg_of X G e_FAR
    t_LEAST_SIZE := t_LEAST_SIZE, c_LEAST_SIZE := PySem.W.mg_of X G e_LEAST_SIZE
    t_MOST_SIZE := t_MOST_SIZE, c_MOST_SIZE := PySem.W.mg_of X G e_MOST_SIZE
    t_MOST_THINGS := t_MOST_THINGS, c_MOST_THINGS := PySem.W.mg_of X G e_MOST_THINGS
    t_PAIR_SIZE := t_PAIR_SIZE, c_PAIR_SIZE := PySem.W.mg_of X G e_PAIR_SIZE
  }
  exact ⟨_, fun s v => .of_eq rfl, fun base _ _ => (ok_law (w := w) (base := base) T).imp fun vs H Q E h => law_spec (n := 63) h⟩

end LW
theorem LW.tail_all (s0 s1 s2 s3 s4 s5 s6 : DL.Sl) : ∃ ρ', LW.n_tail [s0, s1, s2, s3, s4, s5, s6] = .ok (.rt (.fz (.bl true)), ρ') := by
  have h := LW.tail_ok s0 s1 s2 s3 s4 s5 s6
  generalize LW.n_tail [s0, s1, s2, s3, s4, s5, s6] = r at h ⊢
  exact LW.okS_ok h
theorem LW.law_true : ∀ ns : List Int, ns.length ≤ 63 → LW.r_law [.scr ns] = .ok (.fz (.bl true)) := LW.law_of LW.lots_all LW.shown_all LW.tail_all
set_option maxHeartbeats 0 in
theorem PySem.Challenge.cw_shatterlots_k84_whole_lines_and_sizes_holds : PySem.Challenge.rw_shatterlots_k84_whole_lines_and_sizes.Holds := by
  w_on; o_law; k_head; (case hw => w_witness2)
  k_fill
  refine DL.walkG (l := PySem.Challenge.rw_shatterlots_k84_whole_lines_and_sizes) (n := 63) (k := 11) (x := "script") (f := LW.r_law) rfl (by decide) rfl ⟨rfl, by decide, by decide⟩ (fun w h Y => PySem.W.kIn_of Y) ?F LW.law_true
  case F =>
    intro w mg fa h KX G hmg
    refine' LW.all_mk KX G hmg ?a0 ?l0 ?c0 ?k0 ?a1 ?l1 ?c1 ?k1 ?a2 ?l2 ?c2 ?k2 ?a3 ?l3 ?c3 ?k3 ?a4 ?l4 ?c4 ?k4 ?a5 ?l5 ?c5 ?k5 ?a6 ?l6 ?c6 ?k6 ?a7 ?l7 ?c7 ?k7 ?a8 ?l8 ?c8 ?k8 ?a9 ?l9 ?c9 ?k9 ?a10 ?l10 ?c10 ?k10 ?a11 ?l11 ?c11 ?k11 ?a12 ?l12 ?c12 ?k12 ?a13 ?l13 ?c13 ?k13 ?a14 ?l14 ?c14 ?k14 ?a15 ?l15 ?c15 ?k15 ?a16 ?l16 ?c16 ?k16 ?a17 ?l17 ?c17 ?k17 ?a18 ?l18 ?c18 ?k18 ?a19 ?l19 ?c19 ?k19 ?a20 ?l20 ?c20 ?k20 ?a21 ?l21 ?c21 ?k21 ?a22 ?l22 ?c22 ?k22 ?a23 ?l23 ?c23 ?k23 ?a24 ?l24 ?c24 ?k24 ?a25 ?l25 ?c25 ?k25 ?a26 ?l26 ?c26 ?k26 ?a27 ?l27 ?c27 ?k27 ?a28 ?l28 ?c28 ?k28 ?a29 ?l29 ?c29 ?k29 ?a30 ?l30 ?c30 ?k30 ?a31 ?l31 ?c31 ?k31 ?a32 ?l32 ?c32 ?k32 ?a33 ?l33 ?c33 ?k33 ?a34 ?l34 ?c34 ?k34 ?a35 ?l35 ?c35 ?k35 ?a36 ?l36 ?c36 ?k36 ?a37 ?l37 ?c37 ?k37 ?a38 ?l38 ?c38 ?k38 ?a39 ?l39 ?c39 ?k39 ?a40 ?l40 ?c40 ?k40 ?a41 ?l41 ?c41 ?k41 ?a42 ?l42 ?c42 ?k42 ?a43 ?l43 ?c43 ?k43 ?a44 ?l44 ?c44 ?k44 ?a45 ?l45 ?c45 ?k45 ?a46 ?l46 ?c46 ?k46 ?a47 ?l47 ?c47 ?k47 ?a48 ?l48 ?c48 ?k48 ?a49 ?l49 ?c49 ?k49 ?a50 ?l50 ?c50 ?k50 ?a51 ?l51 ?c51 ?k51 ?a52 ?l52 ?c52 ?k52 ?a53 ?l53 ?c53 ?k53 ?z_abs ?z_all ?z_bool ?z_dict ?z_int ?z_isinstance ?z_len ?z_max ?z_min ?z_range ?z_repr ?z_sorted ?z_sum ?z_tuple ?z_zip ?e_FAR ?e_LEAST_SIZE ?e_MOST_SIZE ?e_MOST_THINGS ?e_PAIR_SIZE
    (case a0 => k_is)
    (case l0 => k_is)
    (case c0 => k_is)
    (case k0 => k_is)
    (case a1 => k_is)
    (case l1 => k_is)
    (case c1 => k_is)
    (case k1 => k_is)
    (case a2 => k_is)
    (case l2 => k_is)
    (case c2 => k_is)
    (case k2 => k_is)
    (case a3 => k_is)
    (case l3 => k_is)
    (case c3 => k_is)
    (case k3 => k_is)
    (case a4 => k_is)
    (case l4 => k_is)
    (case c4 => k_is)
    (case k4 => k_is)
    (case a5 => k_is)
    (case l5 => k_is)
    (case c5 => k_is)
    (case k5 => k_is)
    (case a6 => k_is)
    (case l6 => k_is)
    (case c6 => k_is)
    (case k6 => k_is)
    (case a7 => k_is)
    (case l7 => k_is)
    (case c7 => k_is)
    (case k7 => k_is)
    (case a8 => k_is)
    (case l8 => k_is)
    (case c8 => k_is)
    (case k8 => k_is)
    (case a9 => k_is)
    (case l9 => k_is)
    (case c9 => k_is)
    (case k9 => k_is)
    (case a10 => k_is)
    (case l10 => k_is)
    (case c10 => k_is)
    (case k10 => k_is)
    (case a11 => k_is)
    (case l11 => k_is)
    (case c11 => k_is)
    (case k11 => k_is)
    (case a12 => k_is)
    (case l12 => k_is)
    (case c12 => k_is)
    (case k12 => k_is)
    (case a13 => k_is)
    (case l13 => k_is)
    (case c13 => k_is)
    (case k13 => k_is)
    (case a14 => k_is)
    (case l14 => k_is)
    (case c14 => k_is)
    (case k14 => k_is)
    (case a15 => k_is)
    (case l15 => k_is)
    (case c15 => k_is)
    (case k15 => k_is)
    (case a16 => k_is)
    (case l16 => k_is)
    (case c16 => k_is)
    (case k16 => k_is)
    (case a17 => k_is)
    (case l17 => k_is)
    (case c17 => k_is)
    (case k17 => k_is)
    (case a18 => k_is)
    (case l18 => k_is)
    (case c18 => k_is)
    (case k18 => k_is)
    (case a19 => k_is)
    (case l19 => k_is)
    (case c19 => k_is)
    (case k19 => k_is)
    (case a20 => k_is)
    (case l20 => k_is)
    (case c20 => k_is)
    (case k20 => k_is)
    (case a21 => k_is)
    (case l21 => k_is)
    (case c21 => k_is)
    (case k21 => k_is)
    (case a22 => k_is)
    (case l22 => k_is)
    (case c22 => k_is)
    (case k22 => k_is)
    (case a23 => k_is)
    (case l23 => k_is)
    (case c23 => k_is)
    (case k23 => k_is)
    (case a24 => k_is)
    (case l24 => k_is)
    (case c24 => k_is)
    (case k24 => k_is)
    (case a25 => k_is)
    (case l25 => k_is)
    (case c25 => k_is)
    (case k25 => k_is)
    (case a26 => k_is)
    (case l26 => k_is)
    (case c26 => k_is)
    (case k26 => k_is)
    (case a27 => k_is)
    (case l27 => k_is)
    (case c27 => k_is)
    (case k27 => k_is)
    (case a28 => k_is)
    (case l28 => k_is)
    (case c28 => k_is)
    (case k28 => k_is)
    (case a29 => k_is)
    (case l29 => k_is)
    (case c29 => k_is)
    (case k29 => k_is)
    (case a30 => k_is)
    (case l30 => k_is)
    (case c30 => k_is)
    (case k30 => k_is)
    (case a31 => k_is)
    (case l31 => k_is)
    (case c31 => k_is)
    (case k31 => k_is)
    (case a32 => k_is)
    (case l32 => k_is)
    (case c32 => k_is)
    (case k32 => k_is)
    (case a33 => k_is)
    (case l33 => k_is)
    (case c33 => k_is)
    (case k33 => k_is)
    (case a34 => k_is)
    (case l34 => k_is)
    (case c34 => k_is)
    (case k34 => k_is)
    (case a35 => k_is)
    (case l35 => k_is)
    (case c35 => k_is)
    (case k35 => k_is)
    (case a36 => k_is)
    (case l36 => k_is)
    (case c36 => k_is)
    (case k36 => k_is)
    (case a37 => k_is)
    (case l37 => k_is)
    (case c37 => k_is)
    (case k37 => k_is)
    (case a38 => k_is)
    (case l38 => k_is)
    (case c38 => k_is)
    (case k38 => k_is)
    (case a39 => k_is)
    (case l39 => k_is)
    (case c39 => k_is)
    (case k39 => k_is)
    (case a40 => k_is)
    (case l40 => k_is)
    (case c40 => k_is)
    (case k40 => k_is)
    (case a41 => k_is)
    (case l41 => k_is)
    (case c41 => k_is)
    (case k41 => k_is)
    (case a42 => k_is)
    (case l42 => k_is)
    (case c42 => k_is)
    (case k42 => k_is)
    (case a43 => k_is)
    (case l43 => k_is)
    (case c43 => k_is)
    (case k43 => k_is)
    (case a44 => k_is)
    (case l44 => k_is)
    (case c44 => k_is)
    (case k44 => k_is)
    (case a45 => k_is)
    (case l45 => k_is)
    (case c45 => k_is)
    (case k45 => k_is)
    (case a46 => k_is)
    (case l46 => k_is)
    (case c46 => k_is)
    (case k46 => k_is)
    (case a47 => k_is)
    (case l47 => k_is)
    (case c47 => k_is)
    (case k47 => k_is)
    (case a48 => k_is)
    (case l48 => k_is)
    (case c48 => k_is)
    (case k48 => k_is)
    (case a49 => k_is)
    (case l49 => k_is)
    (case c49 => k_is)
    (case k49 => k_is)
    (case a50 => k_is)
    (case l50 => k_is)
    (case c50 => k_is)
    (case k50 => k_is)
    (case a51 => k_is)
    (case l51 => k_is)
    (case c51 => k_is)
    (case k51 => k_is)
    (case a52 => k_is)
    (case l52 => k_is)
    (case c52 => k_is)
    (case k52 => k_is)
    (case a53 => k_is)
    (case l53 => k_is)
    (case c53 => k_is)
    (case k53 => k_is)
    (case z_abs => k_is)
    (case z_all => k_is)
    (case z_bool => k_is)
    (case z_dict => k_is)
    (case z_int => k_is)
    (case z_isinstance => k_is)
    (case z_len => k_is)
    (case z_max => k_is)
    (case z_min => k_is)
    (case z_range => k_is)
    (case z_repr => k_is)
    (case z_sorted => k_is)
    (case z_sum => k_is)
    (case z_tuple => k_is)
    (case z_zip => k_is)
    (case e_FAR => k_is)
    (case e_LEAST_SIZE => k_is)
    (case e_MOST_SIZE => k_is)
    (case e_MOST_THINGS => k_is)
    (case e_PAIR_SIZE => k_is)
end
