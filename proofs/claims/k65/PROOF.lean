import PyProof.Rows.All
import Wide.All
import OpenK.AllK
import Wide.FinOn
import HandS.ForMost
import HandS.Exc
import HandS.TryOnly
import HandS.ExcOwn
import HandS.WordsExc
import HandS.Deep
import HandS.Style
import HandS.TupAny
import HandS.TupMul
import HandS.IsInst
import KE.KTupSum
import HandS.Flow
import HandS.More
import HandS.SortInts
import HandS.SetFor
import HandS.Strs
import HandS.ListItems
import HandS.Conv
import HandS.Zip
import HandS.Small
import HandS.Codes
import PySem.Challenge.RW_backrows_k65_whole_parting_held
set_option Elab.async false
set_option linter.all false
set_option maxRecDepth 100000
set_option maxHeartbeats 4000000
/-! DL1: plain data D, how the abstract heap bears it, states, steps. -/
namespace DL
open PySem L2

inductive D where
  | non | bl (b : Bool) | int (i : Int) | str (x : Str) | lst (xs : List D) | tup (xs : List D) | dic (kvs : List (Key × D)) | obj (i : Nat) | exc (k : Nat) | fn (k : Nat) | scr (ns : List Int)

/-- the ghost of a running def: F what is read only, F0 what was so at the entry, E the abstract heap at the entry -/
structure Gh where
  F : Addr → Prop
  F0 : Addr → Prop
  E : Hp

def WrL (K : PySem.W.Frag) (a : Addr) (xs : List V) : Prop :=
  ∃ (o : Obj) (its : Array Value) (n : Nat), K.lookup a = some o ∧ o.cls = .type "list" ∧ o.dict = none ∧ o.data = .seq its n ∧ its.size ≤ sizeLine ∧ Vals xs its.toList

mutual
inductive Rep (K : PySem.W.Frag) (F : Addr → Prop) (H : Hp) : V → D → Prop
  | non : Rep K F H .non .non
  | bl (b : Bool) : Rep K F H (.bl b) (.bl b)
  | int (i : Int) : Rep K F H (.int i) (.int i)
  | str (x : Str) : Rep K F H (.str x) (.str x)
  | lst {a : Addr} {vs : List V} {ds : List D} : F a → H a = some (.lst vs) → RepL K F H vs ds → Rep K F H (.ref a) (.lst ds)
  | scr {a : Addr} {ns : List Int} : F a → Rd H a (.lst (ns.map V.int)) → Rep K F H (.ref a) (.scr ns)
  | scrK {a : Addr} {ns : List Int} : WrL K a (ns.map V.int) → Rep K F H (.ref a) (.scr ns)
  | tup {a : Addr} {vs : List V} {ds : List D} : F a → H a = some (.tup vs) → RepL K F H vs ds → Rep K F H (.ref a) (.tup ds)
  | dic {a : Addr} {kvs : List (Key × V)} {kds : List (Key × D)} : F a → H a = some (.dK kvs) → RepK K F H kvs kds → Rep K F H (.ref a) (.dic kds)
inductive RepL (K : PySem.W.Frag) (F : Addr → Prop) (H : Hp) : List V → List D → Prop
  | nil : RepL K F H [] []
  | cons {v : V} {vs : List V} {d : D} {ds : List D} : Rep K F H v d → RepL K F H vs ds → RepL K F H (v :: vs) (d :: ds)
inductive RepK (K : PySem.W.Frag) (F : Addr → Prop) (H : Hp) : List (Key × V) → List (Key × D) → Prop
  | nil : RepK K F H [] []
  | cons {k : Key} {v : V} {vs : List (Key × V)} {d : D} {ds : List (Key × D)} : Rep K F H v d → RepK K F H vs ds → RepK K F H ((k, v) :: vs) ((k, d) :: ds)
end

section
variable {K : PySem.W.Frag} {F F' : Addr → Prop} {H H' : Hp}
theorem Rd.keep {a : Addr} {u : HO} (h : Rd H a u) (k : ∀ o, H a = some o → H' a = some o) : Rd H' a u := by
  rcases h with h | ⟨o, h⟩
  · exact .inl (k _ h)
  · exact .inr ⟨o, k _ h⟩
mutual
theorem Rep.mono (hF : ∀ a, F a → F' a) (hH : ∀ a o, F a → H a = some o → H' a = some o) : ∀ (d : D) (v : V), Rep K F H v d → Rep K F' H' v d
  | .non, _, h => by cases h; exact .non
  | .bl b, _, h => by cases h; exact .bl b
  | .int i, _, h => by cases h; exact .int i
  | .str x, _, h => by cases h; exact .str x
  | .lst ds, _, h => by
    cases h with
    | lst f r l => exact .lst (hF _ f) (hH _ _ f r) (RepL.mono hF hH ds _ l)
  | .tup ds, _, h => by
    cases h with
    | tup f r l => exact .tup (hF _ f) (hH _ _ f r) (RepL.mono hF hH ds _ l)
  | .dic kds, _, h => by
    cases h with
    | dic f r l => exact .dic (hF _ f) (hH _ _ f r) (RepK.mono hF hH kds _ l)
  | .obj _, _, h => by cases h
  | .exc _, _, h => by cases h
  | .fn _, _, h => by cases h
  | .scr ns, _, h => by
    cases h with
    | scr f r => exact .scr (hF _ f) (Rd.keep r fun o e => hH _ o f e)
    | scrK w => exact .scrK w
theorem RepL.mono (hF : ∀ a, F a → F' a) (hH : ∀ a o, F a → H a = some o → H' a = some o) : ∀ (ds : List D) (vs : List V), RepL K F H vs ds → RepL K F' H' vs ds
  | [], _, h => by cases h; exact .nil
  | d :: ds, _, h => by
    cases h with
    | cons h1 h2 => exact .cons (Rep.mono hF hH d _ h1) (RepL.mono hF hH ds _ h2)
theorem RepK.mono (hF : ∀ a, F a → F' a) (hH : ∀ a o, F a → H a = some o → H' a = some o) : ∀ (ds : List (Key × D)) (vs : List (Key × V)), RepK K F H vs ds → RepK K F' H' vs ds
  | [], _, h => by cases h; exact .nil
  | (k, d) :: ds, _, h => by
    cases h with
    | cons h1 h2 => exact .cons (Rep.mono hF hH d _ h1) (RepK.mono hF hH ds _ h2)
end

theorem RepL.length : ∀ {vs : List V} {ds : List D}, RepL K F H vs ds → vs.length = ds.length
  | _, _, .nil => rfl
  | _, _, .cons _ h => congrArg (· + 1) h.length
theorem RepL.append : ∀ {vs ws : List V} {ds es : List D}, RepL K F H vs ds → RepL K F H ws es → RepL K F H (vs ++ ws) (ds ++ es)
  | _, _, _, _, .nil, q => q
  | _, _, _, _, .cons a h, q => .cons a (h.append q)
theorem RepL.get : ∀ {vs : List V} {ds : List D} {i : Nat} {d : D}, RepL K F H vs ds → ds[i]? = some d → ∃ v, vs[i]? = some v ∧ Rep K F H v d
  | _, _, _, _, .nil, e => by simp at e
  | _, _, 0, _, .cons a h, e => by simp at e; subst e; exact ⟨_, rfl, a⟩
  | _, _, i + 1, _, .cons a h, e => by
    obtain ⟨v, h1, h2⟩ := h.get (i := i) (by simpa using e)
    exact ⟨v, by simpa using h1, h2⟩
theorem RepL.get' : ∀ {vs : List V} {ds : List D} {i : Nat} {v : V}, RepL K F H vs ds → vs[i]? = some v → ∃ d, ds[i]? = some d ∧ Rep K F H v d
  | _, _, _, _, .nil, e => by simp at e
  | _, _, 0, _, .cons a h, e => by simp at e; subst e; exact ⟨_, rfl, a⟩
  | _, _, i + 1, _, .cons a h, e => by
    obtain ⟨v, h1, h2⟩ := h.get' (i := i) (by simpa using e)
    exact ⟨v, by simpa using h1, h2⟩
theorem RepL.set {v : V} {d : D} (a : Rep K F H v d) : ∀ {vs : List V} {ds : List D} (i : Nat), RepL K F H vs ds → RepL K F H (vs.set i v) (ds.set i d)
  | _, _, _, .nil => .nil
  | _, _, 0, .cons _ h => .cons a h
  | _, _, i + 1, .cons b h => .cons b (RepL.set a i h)
theorem RepL.take : ∀ {vs : List V} {ds : List D} (n : Nat), RepL K F H vs ds → RepL K F H (vs.take n) (ds.take n)
  | _, _, 0, _ => .nil
  | _, _, _ + 1, .nil => .nil
  | _, _, n + 1, .cons a h => .cons a (h.take n)
theorem RepL.drop : ∀ {vs : List V} {ds : List D} (n : Nat), RepL K F H vs ds → RepL K F H (vs.drop n) (ds.drop n)
  | _, _, 0, h => h
  | _, _, _ + 1, .nil => .nil
  | _, _, n + 1, .cons _ h => h.drop n
theorem RepL.reverse : ∀ {vs : List V} {ds : List D}, RepL K F H vs ds → RepL K F H vs.reverse ds.reverse
  | _, _, .nil => .nil
  | _, _, .cons a h => by
    rw [List.reverse_cons, List.reverse_cons]
    exact h.reverse.append (.cons a .nil)
theorem RepL.rep {vs : List V} {ds : List D} (h : RepL K F H vs ds) : ∀ k : Nat, RepL K F H (List.replicate k vs).flatten (List.replicate k ds).flatten
  | 0 => .nil
  | k + 1 => by
    rw [List.replicate_succ, List.replicate_succ, List.flatten_cons, List.flatten_cons]
    exact h.append (h.rep k)
theorem RepL.of : ∀ {vs : List V} {ds : List D}, vs.length = ds.length → (∀ (i : Nat) v d, vs[i]? = some v → ds[i]? = some d → Rep K F H v d) → RepL K F H vs ds
  | [], [], _, _ => .nil
  | v :: vs, d :: ds, hl, h => .cons (h 0 v d rfl rfl) (RepL.of (by simpa using hl) fun i v d a b => h (i + 1) v d (by simpa using a) (by simpa using b))
theorem RepL.ints : ∀ ns : List Int, RepL K F H (ns.map V.int) (ns.map D.int)
  | [] => .nil
  | n :: ns => .cons (.int n) (RepL.ints ns)
/-- data that is ints gives values that are ints -/
theorem RepL.toInts : ∀ {vs : List V} {ns : List Int}, RepL K F H vs (ns.map D.int) → vs = ns.map V.int
  | vs, [], h => by
    have h' : RepL K F H vs [] := h
    cases h'; rfl
  | vs, n :: ns, h => by
    have h' : RepL K F H vs (D.int n :: ns.map D.int) := h
    cases h' with
    | cons a b => cases a; rw [b.toInts]; rfl
end

/-! ### what stands at an own address; kinds; states -/
def Cell (K : PySem.W.Frag) (F : Addr → Prop) (H : Hp) (p : Addr) : D → Prop
  | .lst ds => ∃ vs, H p = some (.lst vs) ∧ RepL K F H vs ds
  | .dic kds => ∃ kvs, H p = some (.dK kvs) ∧ RepK K F H kvs kds
  | _ => False
def Own (K : PySem.W.Frag) (Γ : Gh) (H : Hp) (v : V) (d : D) : Prop := ∃ p, v = .ref p ∧ ¬ Γ.F p ∧ Γ.E p = none ∧ Cell K Γ.F H p d

inductive Kd where
  | fro | fre | bor (i : Nat)
  deriving DecidableEq
abbrev Val := D × Kd
inductive Cl where
  | un | fro (d : D) | own (d : D)
structure WObj where
  own : D
  now : D
  past : List D
  later : List D
structure S where
  ρ : List Cl
  w : List WObj

structure RS (K : PySem.W.Frag) (Γ : Gh) (σ : St) (H : Hp) (s : S) : Prop where
  len : s.ρ.length = σ.length
  fro : ∀ (i : Nat) d, s.ρ[i]? = some (.fro d) → ∃ v, σ[i]? = some (some v) ∧ Rep K Γ.F H v d
  own : ∀ (i : Nat) d, s.ρ[i]? = some (.own d) → ∃ v, σ[i]? = some (some v) ∧ Own K Γ H v d
  dist : ∀ (i j : Nat) di dj, s.ρ[i]? = some (.own di) → s.ρ[j]? = some (.own dj) → i ≠ j → σ[i]? ≠ σ[j]?
  entry : ∀ a o, Γ.E a = some o → H a = some o
  trk : ∀ a, Γ.F a → H a ≠ none
  fnew : ∀ a, Γ.F a → Γ.F0 a ∨ Γ.E a = none
  ws : s.w = []

structure Step (Γ : Gh) (σ : St) (H : Hp) (s : S) (Γ' : Gh) (H' : Hp) (s' : S) : Prop where
  mono : ∀ a, Γ.F a → Γ'.F a
  e : Γ'.E = Γ.E
  f0 : Γ'.F0 = Γ.F0
  keep : ∀ a o, H a = some o → H' a = some o
  new : ∀ a, Γ'.F a → Γ.F a ∨ H a = none ∨ ∃ (i : Nat) (d : D), s.ρ[i]? = some (.own d) ∧ σ[i]? = some (some (.ref a))
  cells : ∀ (i : Nat) c, s.ρ[i]? = some c → s'.ρ[i]? = some c ∨ ∃ d, c = .own d ∧ s'.ρ[i]? = some (.fro d)
  len : s'.ρ.length = s.ρ.length

section
variable {K : PySem.W.Frag} {Γ Γ' Γ'' : Gh} {σ : St} {H H' H'' : Hp} {s s' s'' : S}
theorem Step.refl : Step Γ σ H s Γ H s := ⟨fun _ h => h, rfl, rfl, fun _ _ h => h, fun _ h => .inl h, fun _ _ h => .inl h, rfl⟩
theorem Step.ownBack (a : Step Γ σ H s Γ' H' s') {i : Nat} {d : D} (h : s'.ρ[i]? = some (.own d)) : s.ρ[i]? = some (.own d) := by
  have hi : i < s.ρ.length := by rw [← a.len]; exact (List.getElem?_eq_some_iff.mp h).1
  rcases a.cells i s.ρ[i] (List.getElem?_eq_getElem hi) with q | ⟨d', q1, q2⟩
  · rw [h] at q; rw [List.getElem?_eq_getElem hi]; exact q.symm
  · rw [h] at q2; cases q2
theorem Step.trans (a : Step Γ σ H s Γ' H' s') (b : Step Γ' σ H' s' Γ'' H'' s'') : Step Γ σ H s Γ'' H'' s'' where
  mono := fun c h => b.mono c (a.mono c h)
  e := b.e.trans a.e
  f0 := b.f0.trans a.f0
  keep := fun c o h => b.keep c o (a.keep c o h)
  new := fun c h => by
    rcases b.new c h with h | h | ⟨i, d, h1, h2⟩
    · exact a.new c h
    · refine .inr (.inl ?_)
      cases q : H c with
      | none => rfl
      | some o => rw [a.keep c o q] at h; cases h
    · exact .inr (.inr ⟨i, d, a.ownBack h1, h2⟩)
  cells := fun i c h => by
    rcases a.cells i c h with q | ⟨d, q1, q2⟩
    · exact b.cells i c q
    · rcases b.cells i _ q2 with z | ⟨d', z1, _⟩
      · exact .inr ⟨d, q1, z⟩
      · cases z1
  len := b.len.trans a.len
theorem Step.none_back (a : Step Γ σ H s Γ' H' s') {c : Addr} (h : H' c = none) : H c = none := by
  cases q : H c with
  | none => rfl
  | some o => rw [a.keep c o q] at h; cases h
theorem Rep.step (a : Step Γ σ H s Γ' H' s') {v : V} {d : D} (h : Rep K Γ.F H v d) : Rep K Γ'.F H' v d := Rep.mono a.mono (fun b o _ e => a.keep b o e) d v h
theorem RepL.step (a : Step Γ σ H s Γ' H' s') {v : List V} {d : List D} (h : RepL K Γ.F H v d) : RepL K Γ'.F H' v d := RepL.mono a.mono (fun b o _ e => a.keep b o e) d v h
theorem RepK.step (a : Step Γ σ H s Γ' H' s') {v : List (Key × V)} {d : List (Key × D)} (h : RepK K Γ.F H v d) : RepK K Γ'.F H' v d := RepK.mono a.mono (fun b o _ e => a.keep b o e) d v h
theorem Cell.step (a : Step Γ σ H s Γ' H' s') {p : Addr} {d : D} (h : Cell K Γ.F H p d) : Cell K Γ'.F H' p d := by
  cases d with
  | lst ds => obtain ⟨vs, h1, h2⟩ := h; exact ⟨vs, a.keep _ _ h1, h2.step a⟩
  | dic ds => obtain ⟨vs, h1, h2⟩ := h; exact ⟨vs, a.keep _ _ h1, h2.step a⟩
  | _ => exact h.elim
theorem Cell.trk {F : Addr → Prop} {p : Addr} {d : D} (h : Cell K F H p d) : H p ≠ none := by
  cases d with
  | lst ds => obtain ⟨vs, h1, h2⟩ := h; rw [h1]; simp
  | dic ds => obtain ⟨vs, h1, h2⟩ := h; rw [h1]; simp
  | _ => exact h.elim

/-- a value, by its kind: read only; own and new; the own thing of slot i -/
def RV (K : PySem.W.Frag) (Γ : Gh) (σ : St) (H : Hp) (s : S) (v : V) : Val → Prop
  | (d, .fro) => Rep K Γ.F H v d
  | (d, .fre) => Own K Γ H v d ∧ ∀ (i : Nat) d', s.ρ[i]? = some (.own d') → σ[i]? ≠ some (some v)
  | (d, .bor i) => σ[i]? = some (some v) ∧ (s.ρ[i]? = some (.own d) ∨ (Rep K Γ.F H v d ∧ ∃ p, v = .ref p ∧ Γ.F p))
/-- what is read only and was own -/
theorem Cell.repF {F F' : Addr → Prop} {p : Addr} {d : D} {H1 : Hp} (h : Cell K F H1 p d) (r : Rep K F' H' (.ref p) d) : F' p := by
  cases d with
  | lst ds => cases r with | lst f _ _ => exact f
  | dic ds => cases r with | dic f _ _ => exact f
  | _ => exact h.elim
theorem RV.step (R : RS K Γ σ H s) (R' : RS K Γ' σ H' s') (a : Step Γ σ H s Γ' H' s') {v : V} {r : Val} (h : RV K Γ σ H s v r) : RV K Γ' σ H' s' v r := by
  obtain ⟨d, k⟩ := r
  cases k with
  | fro => exact Rep.step (K := K) a h
  | fre =>
    obtain ⟨⟨p, rfl, h1, h2, h3⟩, h4⟩ := h
    refine ⟨⟨p, rfl, fun q => ?_, by rw [a.e]; exact h2, h3.step a⟩, fun i d' e => h4 i d' (a.ownBack e)⟩
    rcases a.new p q with z | z | ⟨i, d', z1, z2⟩
    · exact h1 z
    · exact h3.trk z
    · exact h4 i d' z1 z2
  | bor i =>
    obtain ⟨h1, h2⟩ := h
    refine ⟨h1, ?_⟩
    rcases h2 with h2 | h2
    · rcases a.cells i _ h2 with q | ⟨d', q1, q2⟩
      · exact .inl q
      · cases q1
        obtain ⟨v', e1, e2⟩ := R'.fro i _ q2
        rw [h1] at e1; cases e1
        obtain ⟨v', e1, p, rfl, _, _, h3⟩ := R.own i d h2
        rw [h1] at e1; cases e1
        exact .inr ⟨e2, p, rfl, h3.repF e2⟩
    · obtain ⟨h2, p, e, h3⟩ := h2
      exact .inr ⟨h2.step a, p, e, a.mono p h3⟩
/-- the content of a value, whatever its kind -/
inductive Cont (K : PySem.W.Frag) (F : Addr → Prop) (H : Hp) : V → D → Prop
  | rep {v : V} {d : D} : Rep K F H v d → Cont K F H v d
  | cell {p : Addr} {d : D} : Cell K F H p d → Cont K F H (.ref p) d
theorem RV.cont (R : RS K Γ σ H s) {v : V} {d : D} {k : Kd} (h : RV K Γ σ H s v (d, k)) : Cont K Γ.F H v d := by
  cases k with
  | fro => exact .rep h
  | fre => obtain ⟨⟨p, rfl, _, _, h3⟩, _⟩ := h; exact .cell h3
  | bor i =>
    obtain ⟨h1, h2 | h2⟩ := h
    · obtain ⟨v', e1, p, rfl, _, _, h3⟩ := R.own i d h2
      rw [h1] at e1; cases e1
      exact .cell h3
    · exact .rep h2.1
theorem Cont.step (a : Step Γ σ H s Γ' H' s') {v : V} {d : D} (h : Cont K Γ.F H v d) : Cont K Γ'.F H' v d := by
  cases h with
  | rep h => exact .rep (h.step a)
  | cell h => exact .cell (h.step a)
/-- a list's content -/
theorem Cont.lst {F : Addr → Prop} {v : V} {ds : List D} (h : Cont K F H v (.lst ds)) : ∃ a vs, v = .ref a ∧ H a = some (.lst vs) ∧ RepL K F H vs ds := by
  cases h with
  | rep h =>
    cases h with
    | lst f r l => exact ⟨_, _, rfl, r, l⟩
  | cell h => obtain ⟨vs, h1, h2⟩ := h; exact ⟨_, vs, rfl, h1, h2⟩
theorem Cont.scr {F : Addr → Prop} {v : V} {ns : List Int} (h : Cont K F H v (.scr ns)) : ∃ a, v = .ref a ∧ SqL K H a (ns.map V.int) := by
  cases h with
  | rep h =>
    cases h with
    | scr f r => exact ⟨_, rfl, .inl r⟩
    | scrK w => exact ⟨_, rfl, .inr w⟩
  | cell h => exact h.elim
theorem Cont.tup {F : Addr → Prop} {v : V} {ds : List D} (h : Cont K F H v (.tup ds)) : ∃ a vs, v = .ref a ∧ H a = some (.tup vs) ∧ RepL K F H vs ds := by
  cases h with
  | rep h => cases h with | tup f r l => exact ⟨_, _, rfl, r, l⟩
  | cell h => exact h.elim
theorem Cont.dic {F : Addr → Prop} {v : V} {ds : List (Key × D)} (h : Cont K F H v (.dic ds)) : ∃ a vs, v = .ref a ∧ H a = some (.dK vs) ∧ RepK K F H vs ds := by
  cases h with
  | rep h => cases h with | dic f r l => exact ⟨_, _, rfl, r, l⟩
  | cell h => obtain ⟨vs, h1, h2⟩ := h; exact ⟨_, vs, rfl, h1, h2⟩
theorem Cont.int {F : Addr → Prop} {v : V} {i : Int} (h : Cont K F H v (.int i)) : v = .int i := by
  cases h with
  | rep h => cases h; rfl
  | cell h => exact h.elim
theorem Cont.bl {F : Addr → Prop} {v : V} {i : Bool} (h : Cont K F H v (.bl i)) : v = .bl i := by
  cases h with
  | rep h => cases h; rfl
  | cell h => exact h.elim
theorem Cont.str {F : Addr → Prop} {v : V} {i : Str} (h : Cont K F H v (.str i)) : v = .str i := by
  cases h with
  | rep h => cases h; rfl
  | cell h => exact h.elim
theorem Cont.non {F : Addr → Prop} {v : V} (h : Cont K F H v .non) : v = .non := by
  cases h with
  | rep h => cases h; rfl
  | cell h => exact h.elim
end

/-! ### what one does with a state -/
def Gh.add (Γ : Gh) (p : Addr) : Gh := { Γ with F := fun a => Γ.F a ∨ a = p }
def S.set (s : S) (i : Nat) (c : Cl) : S := { s with ρ := s.ρ.set i c }
/-- slot i's own thing becomes read only -/
def S.frz (s : S) (i : Nat) : S := match s.ρ[i]? with
  | some (.own d) => s.set i (.fro d)
  | _ => s
def S.fz (s : S) : Kd → S
  | .bor i => s.frz i
  | _ => s
section
variable {K : PySem.W.Frag} {Γ : Gh} {σ : St} {H : Hp} {s : S}
/-- a new read only object -/
theorem RS.lay (R : RS K Γ σ H s) {p : Addr} (o : HO) (hp : H p = none) : Step Γ σ H s (Γ.add p) (upd H p o) s ∧ RS K (Γ.add p) σ (upd H p o) s := by
  have kp : ∀ a u, H a = some u → upd H p o a = some u := fun a u e => by rw [upd_ne (ne_of_none e hp)]; exact e
  have st : Step Γ σ H s (Γ.add p) (upd H p o) s := ⟨fun _ h => .inl h, rfl, rfl, kp, fun a h => by
    rcases h with h | h
    · exact .inl h
    · subst h; exact .inr (.inl hp), fun _ _ h => .inl h, rfl⟩
  refine ⟨st, ⟨R.len, fun i d e => ?_, fun i d e => ?_, R.dist, fun a u e => kp a u (R.entry a u e), fun a h => ?_, fun a h => ?_, R.ws⟩⟩
  · obtain ⟨v, h1, h2⟩ := R.fro i d e
    exact ⟨v, h1, h2.step st⟩
  · obtain ⟨v, h1, q, rfl, h2, h3, h4⟩ := R.own i d e
    refine ⟨_, h1, q, rfl, fun z => ?_, h3, h4.step st⟩
    rcases z with z | z
    · exact h2 z
    · subst z; exact h4.trk hp
  · rcases h with h | h
    · cases q : H a with
      | none => exact absurd q (R.trk a h)
      | some u => rw [kp a u q]; simp
    · subst h; rw [upd_same]; simp
  · rcases h with h | h
    · exact R.fnew a h
    · subst h
      refine .inr ?_
      show Γ.E a = none
      cases q : Γ.E a with
      | none => rfl
      | some u => rw [R.entry a u q] at hp; cases hp
/-- a new object of one's own -/
theorem RS.layOwn (R : RS K Γ σ H s) {p : Addr} (o : HO) (hp : H p = none) : Step Γ σ H s Γ (upd H p o) s ∧ RS K Γ σ (upd H p o) s := by
  have kp : ∀ a u, H a = some u → upd H p o a = some u := fun a u e => by rw [upd_ne (ne_of_none e hp)]; exact e
  have st : Step Γ σ H s Γ (upd H p o) s := ⟨fun _ h => h, rfl, rfl, kp, fun a h => .inl h, fun _ _ h => .inl h, rfl⟩
  refine ⟨st, ⟨R.len, fun i d e => ?_, fun i d e => ?_, R.dist, fun a u e => kp a u (R.entry a u e), fun a h => ?_, R.fnew, R.ws⟩⟩
  · obtain ⟨v, h1, h2⟩ := R.fro i d e
    exact ⟨v, h1, h2.step st⟩
  · obtain ⟨v, h1, q, rfl, h2, h3, h4⟩ := R.own i d e
    exact ⟨_, h1, q, rfl, h2, h3, h4.step st⟩
  · cases q : H a with
    | none => exact absurd q (R.trk a h)
    | some u => rw [kp a u q]; simp
theorem RS.newE (R : RS K Γ σ H s) {p : Addr} (hp : H p = none) : Γ.E p = none := by
  cases q : Γ.E p with
  | none => rfl
  | some u => rw [R.entry p u q] at hp; cases hp
theorem RS.newF (R : RS K Γ σ H s) {p : Addr} (hp : H p = none) : ¬ Γ.F p := fun h => R.trk p h hp
/-- the value of a new own object -/
theorem RS.rvNew (R : RS K Γ σ H s) {p : Addr} {o : HO} {d : D} (hp : H p = none) (hc : Cell K Γ.F (upd H p o) p d) : RV K Γ σ (upd H p o) s (.ref p) (d, .fre) := by
  refine ⟨⟨p, rfl, R.newF hp, R.newE hp, hc⟩, fun i d' e q => ?_⟩
  obtain ⟨v, h1, p', rfl, h2, h3, h4⟩ := R.own i d' e
  rw [q] at h1; cases h1
  exact h4.trk hp
/-- an own cell becomes readable -/
theorem Cell.toRep {p : Addr} {d : D} {F : Addr → Prop} (h : Cell K F H p d) : Rep K (fun a => F a ∨ a = p) H (.ref p) d := by
  cases d with
  | lst ds =>
    obtain ⟨vs, h1, h2⟩ := h
    exact .lst (.inr rfl) h1 (RepL.mono (fun a z => .inl z) (fun _ _ _ e => e) ds vs h2)
  | dic ds =>
    obtain ⟨vs, h1, h2⟩ := h
    exact .dic (.inr rfl) h1 (RepK.mono (fun a z => .inl z) (fun _ _ _ e => e) ds vs h2)
  | _ => exact h.elim
/-- p, no slot's own and tracked, is made read only -/
theorem RS.addF (R : RS K Γ σ H s) {p : Addr} (ht : H p ≠ none) (he : Γ.E p = none) (hs : ∀ (i : Nat) d, s.ρ[i]? = some (.own d) → σ[i]? ≠ some (some (.ref p))) : RS K (Γ.add p) σ H s where
  len := R.len
  fro := fun i d e => let ⟨v, h1, h2⟩ := R.fro i d e; ⟨v, h1, Rep.mono (fun a z => .inl z) (fun _ _ _ e => e) d v h2⟩
  own := fun i d e => by
    obtain ⟨v, h1, q, rfl, h2, h3, h4⟩ := R.own i d e
    refine ⟨_, h1, q, rfl, fun z => ?_, h3, ?_⟩
    · rcases z with z | z
      · exact h2 z
      · subst z; exact hs i d e h1
    · cases d with
      | lst ds => obtain ⟨vs, a1, a2⟩ := h4; exact ⟨vs, a1, RepL.mono (fun a z => .inl z) (fun _ _ _ e => e) ds vs a2⟩
      | dic ds => obtain ⟨vs, a1, a2⟩ := h4; exact ⟨vs, a1, RepK.mono (fun a z => .inl z) (fun _ _ _ e => e) ds vs a2⟩
      | _ => exact h4.elim
  dist := R.dist
  entry := R.entry
  trk := fun a h => by
    rcases h with h | h
    · exact R.trk a h
    · subst h; exact ht
  fnew := fun a h => by
    rcases h with h | h
    · exact R.fnew a h
    · subst h; exact .inr he
  ws := R.ws
theorem getElem?_set_of {α : Type} {l : List α} {i j : Nat} {x y : α} (h : (l.set i x)[j]? = some y) : (i = j ∧ y = x) ∨ (i ≠ j ∧ l[j]? = some y) := by
  by_cases e : i = j
  · subst e
    refine .inl ⟨rfl, ?_⟩
    by_cases hi : i < l.length
    · rw [List.getElem?_set_self hi] at h; exact (Option.some.inj h).symm
    · rw [List.getElem?_eq_none (by simpa using hi)] at h; cases h
  · rw [List.getElem?_set_ne e] at h
    exact .inr ⟨e, h⟩
/-- slot i's own thing is made read only -/
theorem RS.frzAt (R : RS K Γ σ H s) {i : Nat} {d : D} (e : s.ρ[i]? = some (.own d)) : ∃ p, σ[i]? = some (some (.ref p)) ∧ Step Γ σ H s (Γ.add p) H (s.set i (.fro d)) ∧ RS K (Γ.add p) σ H (s.set i (.fro d)) ∧ Rep K (Γ.add p).F H (.ref p) d := by
  obtain ⟨v, h1, p, rfl, h2, h3, h4⟩ := R.own i d e
  have rp : Rep K (Γ.add p).F H (.ref p) d := h4.toRep
  have hi : i < s.ρ.length := (List.getElem?_eq_some_iff.mp e).1
  refine ⟨p, h1, ⟨fun _ h => .inl h, rfl, rfl, fun _ _ h => h, fun a h => ?_, fun j c h => ?_, by simp [S.set]⟩, ?_, rp⟩
  · rcases h with h | h
    · exact .inl h
    · subst h; exact .inr (.inr ⟨i, d, e, h1⟩)
  · show (s.ρ.set i (.fro d))[j]? = some c ∨ _
    by_cases q : i = j
    · subst q
      rw [e] at h; cases h
      exact .inr ⟨d, rfl, List.getElem?_set_self hi⟩
    · rw [List.getElem?_set_ne q]; exact .inl h
  · refine ⟨by show (s.ρ.set i _).length = _; rw [List.length_set]; exact R.len, fun j d' z => ?_, fun j d' z => ?_, fun j k dj dk z1 z2 ne => ?_, R.entry, fun a h => ?_, fun a h => ?_, R.ws⟩
    · rcases getElem?_set_of z with ⟨z1, z2⟩ | ⟨z1, z2⟩
      · cases z2; subst z1; exact ⟨_, h1, rp⟩
      · obtain ⟨v, a1, a2⟩ := R.fro j d' z2
        exact ⟨v, a1, Rep.mono (fun a z => .inl z) (fun _ _ _ e => e) d' v a2⟩
    · rcases getElem?_set_of z with ⟨z1, z2⟩ | ⟨z1, z2⟩
      · cases z2
      · obtain ⟨v, a1, q, rfl, a2, a3, a4⟩ := R.own j d' z2
        refine ⟨_, a1, q, rfl, fun y => ?_, a3, ?_⟩
        · rcases y with y | y
          · exact a2 y
          · subst y; exact R.dist i j d d' e z2 z1 (h1.trans a1.symm)
        · cases d' with
          | lst ds => obtain ⟨vs, b1, b2⟩ := a4; exact ⟨vs, b1, RepL.mono (fun a z => .inl z) (fun _ _ _ e => e) ds vs b2⟩
          | dic ds => obtain ⟨vs, b1, b2⟩ := a4; exact ⟨vs, b1, RepK.mono (fun a z => .inl z) (fun _ _ _ e => e) ds vs b2⟩
          | _ => exact a4.elim
    · rcases getElem?_set_of z1 with ⟨_, y2⟩ | ⟨_, y2⟩
      · cases y2
      · rcases getElem?_set_of z2 with ⟨_, x2⟩ | ⟨_, x2⟩
        · cases x2
        · exact R.dist j k dj dk y2 x2 ne
    · rcases h with h | h
      · exact R.trk a h
      · subst h; exact h4.trk
    · rcases h with h | h
      · exact R.fnew a h
      · subst h; exact .inr h3
/-- a value of any kind is made read only; what is own and new is newer than the start -/
theorem RS.freeze {Γ0 : Gh} {H0 : Hp} {s0 : S} (R : RS K Γ σ H s) (st0 : Step Γ0 σ H0 s0 Γ H s) {v : V} {d : D} {k : Kd} (h : RV K Γ σ H s v (d, k)) (fresh : k = .fre → ∀ p, v = .ref p → H0 p = none) :
    ∃ Γ', Step Γ0 σ H0 s0 Γ' H (s.fz k) ∧ RS K Γ' σ H (s.fz k) ∧ Rep K Γ'.F H v d := by
  cases k with
  | fro => exact ⟨Γ, st0, R, h⟩
  | fre =>
    obtain ⟨⟨p, rfl, h1, h2, h3⟩, h4⟩ := h
    refine ⟨Γ.add p, ⟨fun a z => .inl (st0.mono a z), st0.e, st0.f0, st0.keep, fun a h => ?_, st0.cells, st0.len⟩, R.addF h3.trk h2 h4, h3.toRep⟩
    rcases h with h | h
    · exact st0.new a h
    · subst h
      exact .inr (.inl (fresh rfl _ rfl))
  | bor i =>
    obtain ⟨h1, h2⟩ := h
    show ∃ Γ', Step Γ0 σ H0 s0 Γ' H (s.frz i) ∧ RS K Γ' σ H (s.frz i) ∧ _
    unfold S.frz
    cases q : s.ρ[i]? with
    | none =>
      rcases h2 with h2 | h2
      · rw [q] at h2; cases h2
      · exact ⟨Γ, st0, R, h2.1⟩
    | some c =>
      cases c with
      | un =>
        rcases h2 with h2 | h2
        · rw [q] at h2; cases h2
        · exact ⟨Γ, st0, R, h2.1⟩
      | fro d' =>
        rcases h2 with h2 | h2
        · rw [q] at h2; cases h2
        · exact ⟨Γ, st0, R, h2.1⟩
      | own d' =>
        obtain ⟨p, e1, st, R', rp⟩ := R.frzAt q
        rw [h1] at e1; cases e1
        rcases h2 with h2 | h2
        · rw [q] at h2; cases h2
          exact ⟨_, st0.trans st, R', rp⟩
        · exact ⟨_, st0.trans st, R', h2.1.step st⟩
end
end DL

/-! DL2: my small syntax, its evaluator, and the check that ties it to the program's syntax. -/
namespace DL
open PySem L2

inductive BO where
  | add | sub | mul | fdiv | md | pow
  deriving DecidableEq
inductive CO where
  | eq | ne | lt | le | gt | ge | isin | notin
  deriving DecidableEq
inductive BI where
  | len | list | tuple | sum | all | max | min | abs | int | str | sorted
  deriving DecidableEq
inductive TY where
  | int | bool | str | tuple | list
  deriving DecidableEq
inductive MT where
  | get | count | index
  deriving DecidableEq
inductive Tgt where
  | nm (i : Nat) | tp (is : List Nat)

mutual
inductive DE where
  | var (i : Nat) | glob (x : Str) (n : Int) | int (n : Int) | bl (b : Bool) | str (x : Str) | non
  | bin (o : BO) (a b : DE) | neg (a : DE) | not (a : DE) | and (es : DEs) | or (es : DEs)
  | cmp (o : CO) (a b : DE) | chain (o1 o2 : CO) (a b c : DE) | isN (neg : Bool) (a : DE) | isB (neg : Bool) (a : DE) (b : Bool)
  | ife (c a b : DE) | tup (es : DEs) | lst (es : DEs) | dic0
  | ix (a i : DE) | slice (a : DE) (lo hi : DO) | revs (a : DE)
  | bi (b : BI) (es : DEs) | isi (a : DE) (t : TY) | meth (m : MT) (a : DE) (es : DEs)
  | call (k : Nat) (es : DEs)
  | lc (src : DSrc) (tgt : Tgt) (own : List (Str × Nat)) (cond : DO) (elt : DE)
  | orT (a b : DE) | setf (b : Bool) (a : DE)
  | srtI (a : DE) | lrng (a b : DE)
inductive DEs where
  | nil | cons (e : DE) (es : DEs)
inductive DO where
  | none | some (e : DE)
inductive DSrc where
  | seq (a : DE) | rng1 (a : DE) | rng2 (a b : DE) | enum (a : DE) | zip (a b : DE)
end

inductive R (α : Type) where
  | ok (a : α) (s : S) | exc (k : Nat) (s : S) | stuck
def R.bind {α β : Type} (r : R α) (f : α → S → R β) : R β :=
  match r with
  | .ok a s => f a s
  | .exc k s => .exc k s
  | .stuck => .stuck
/-- what comes of a call: the value, whether it is the caller's own from now on -/
inductive CRes where
  | ok (d : D) (own : Bool) (w : List WObj) | exc (k : Nat) (w : List WObj) | stuck
abbrev Call := Nat → List D → List WObj → CRes

/-! ### data -/
mutual
def toPy : D → PyData
  | .non => .none
  | .bl b => .bool b
  | .int i => .int i
  | .str x => .str x
  | .lst xs => .list (toPys xs)
  | .tup xs => .tuple (toPys xs)
  | .dic _ => .none
  | .obj _ => .none
  | .exc _ => .none
  | .fn _ => .none
  | .scr ns => .list (ns.map PyData.int)
def toPys : List D → List PyData
  | [] => []
  | d :: ds => toPy d :: toPys ds
end
mutual
/-- data that == knows -/
def plain : D → Bool
  | .non => true
  | .bl _ => true
  | .int _ => true
  | .str _ => true
  | .lst xs => plains xs
  | .tup xs => plains xs
  | .dic _ => false
  | .obj _ => false
  | .exc _ => false
  | .fn _ => false
  | .scr _ => true
def plains : List D → Bool
  | [] => true
  | d :: ds => plain d && plains ds
end
mutual
/-- data without a list or a dict in it -/
def imm : D → Bool
  | .non => true
  | .bl _ => true
  | .int _ => true
  | .str _ => true
  | .lst _ => false
  | .tup xs => imms xs
  | .dic _ => false
  | .obj _ => false
  | .exc _ => false
  | .fn _ => false
  | .scr _ => false
def imms : List D → Bool
  | [] => true
  | d :: ds => imm d && imms ds
end
def okPy (d : D) : Bool := plain d && SeqAt.shaped (toPy d)
def eqD (x y : D) : Option Bool := if okPy x && okPy y then some (PyData.eqv (toPy x) (toPy y)) else none
def flat : D → Bool
  | .non => true
  | .bl _ => true
  | .int _ => true
  | .str _ => true
  | _ => false
def intOf : D → Option Int
  | .int i => some i
  | _ => none
def blOf : D → Option Bool
  | .bl b => some b
  | _ => none
def intsOf : List D → Option (List Int)
  | [] => some []
  | .int i :: r => (intsOf r).map (i :: ·)
  | _ :: _ => none
def blsOf : List D → Option (List Bool)
  | [] => some []
  | .bl i :: r => (blsOf r).map (i :: ·)
  | _ :: _ => none
def keyOf : D → Option Key
  | .int i => some (.inl i)
  | .str x => some (.inr x)
  | _ => none
abbrev LEN : Nat := 16777216
abbrev B64 : Int := 18446744073709551616
abbrev B63 : Int := 9223372036854775808

def binD (o : BO) (x y : D) : Option Val :=
  match o, x, y with
  | .add, .int a, .int b => some (.int (a + b), .fro)
  | .add, .str a, .str b => if a.length + b.length ≤ LEN then some (.str (a ++ b), .fro) else none
  | .add, .lst a, .lst b => if a.length + b.length ≤ LEN then some (.lst (a ++ b), .fre) else none
  | .add, .tup a, .tup b => if a.length + b.length ≤ LEN then some (.tup (a ++ b), .fro) else none
  | .sub, .int a, .int b => some (.int (a - b), .fro)
  | .mul, .int a, .int b => if (-B64 < a ∧ a < B64) ∨ (-B64 < b ∧ b < B64) then some (.int (a * b), .fro) else none
  | .mul, .lst a, .int k => if -B63 ≤ k ∧ k < B63 ∧ a.length * k.toNat ≤ LEN then some (.lst (List.replicate k.toNat a).flatten, .fre) else none
  | .mul, .tup a, .int k => if 0 < a.length ∧ a.length ≤ 1000 ∧ -1000 ≤ k ∧ k ≤ 1000 then some (.tup (List.replicate k.toNat a).flatten, .fro) else none
  | .fdiv, .int a, .int b => if 0 < b ∧ b < 1073741824 then some (.int (a / b), .fro) else none
  | .md, .int a, .int b => if 0 < b then some (.int (a % b), .fro) else none
  | .pow, .int a, .int b => if 0 ≤ b ∧ b ≤ 1000000 ∧ a.natAbs < 18446744073709551616 then some (.int (a ^ b.toNat), .fro) else none
  | _, _, _ => none
def inD (x y : D) : Option Bool :=
  match y with
  | .lst ds => if okPy x && okPy y then some ((toPys ds).any fun z => PyData.eqv z (toPy x)) else none
  | .tup ds => if flat x && ds.all flat then some ((toPys ds).any fun z => PyData.eqv z (toPy x)) else none
  | .dic kds => match keyOf x with
    | some k => some (kds.any fun p => decide (p.1 = k))
    | none => none
  | _ => none
def cmpD (o : CO) (x y : D) : Option Bool :=
  match o, x, y with
  | .eq, x, y => eqD x y
  | .ne, x, y => (eqD x y).map (! ·)
  | .lt, .int a, .int b => some (decide (a < b))
  | .le, .int a, .int b => some (decide (a ≤ b))
  | .gt, .int a, .int b => some (decide (b < a))
  | .ge, .int a, .int b => some (decide (b ≤ a))
  | .isin, x, y => inD x y
  | .notin, x, y => (inD x y).map (! ·)
  | _, _, _ => none
def getD' (kds : List (Key × D)) (k : Key) : Option D := (kds.find? fun p => decide (p.1 = k)).map (·.2)
def putD (kds : List (Key × D)) (k : Key) (d : D) : List (Key × D) :=
  if (kds.any fun p => decide (p.1 = k)) = true then kds.map (fun p => if p.1 = k then (p.1, d) else p) else kds ++ [(k, d)]
def ixD (x y : D) : Option D :=
  match x, y with
  | .lst ds, .int i => atI ds i
  | .tup ds, .int i => atI ds i
  | .scr ns, .int i => (atI ns i).map D.int
  | .dic kds, y => (keyOf y).bind (getD' kds)
  | _, _ => none
def cutD {α : Type} (xs : List α) (lo hi : Option Int) : List α := (xs.drop (HT.sIx xs.length 0 lo)).take (HT.sIx xs.length xs.length hi - HT.sIx xs.length 0 lo)
def sliceD (x : D) (lo hi : Option Int) : Option Val :=
  match x with
  | .lst ds => some (.lst (cutD ds lo hi), .fre)
  | .tup ds => some (.tup (cutD ds lo hi), .fro)
  | _ => none
def maxI : List Int → Int
  | [] => 0
  | [a] => a
  | a :: r => max a (maxI r)
def minI : List Int → Int
  | [] => 0
  | [a] => a
  | a :: r => min a (minI r)
def sortI (ns : List Int) : List Int := ns.mergeSort (fun a b => decide (a ≤ b))
/-- the keys, if all are ints -/
def keysI : List (Key × D) → Option (List Int)
  | [] => some []
  | (.inl i, _) :: r => (keysI r).map (i :: ·)
  | (.inr _, _) :: _ => none
/-- each once -/
def onceD : List Int → List Int
  | [] => []
  | a :: r => if a ∈ r then onceD r else a :: onceD r
/-- len(set(xs)), sorted(set(xs)) -/
def setD (b : Bool) (x : D) : Option Val :=
  match b, x with
  | true, .lst xs => (intsOf xs).bind fun ns => if ns.length ≤ 4000 then some (.int (onceD ns).length, .fro) else none
  | false, .lst xs => (intsOf xs).bind fun ns => if ns.length < 64 then some (.lst ((sortI (onceD ns)).map D.int), .fre) else none
  | _, _ => none
/-- pairs of ints, by the first, then by the second -/
def lexLe (p q : Int × Int) : Bool := decide (p.1 < q.1 ∨ (p.1 = q.1 ∧ p.2 ≤ q.2))
def sortP (ps : List (Int × Int)) : List (Int × Int) := ps.mergeSort lexLe
def encP (p : Int × Int) : D := .tup [.int p.1, .int p.2]
/-- the items, if all are ints -/
def pairsK : List (Key × D) → Option (List (Int × Int))
  | [] => some []
  | (.inl i, .int v) :: r => (pairsK r).map ((i, v) :: ·)
  | _ :: _ => none
/-- sorted(d.items()) -/
def itemsD : D → Option Val
  | .dic kds => (pairsK kds).map fun ps => (.lst ((sortP ps).map encP), .fre)
  | _ => none
/-- list(range(lo, hi)) -/
def lrngD (lo hi : Int) : Option Val := if -4611686018427387904 ≤ lo ∧ lo < 4611686018427387904 ∧ -4611686018427387904 ≤ hi ∧ hi < 4611686018427387904 ∧ (hi - lo).toNat ≤ LEN then some (.lst ((List.range (hi - lo).toNat).map fun (i : Nat) => .int (lo + i)), .fre) else none
/-- truth, of lists -/
def truD : D → Option Bool
  | .lst xs => some (!xs.isEmpty)
  | _ => none
def biD (b : BI) (ds : List D) : Option Val :=
  match b, ds with
  | .len, [.lst xs] => some (.int xs.length, .fro)
  | .len, [.tup xs] => some (.int xs.length, .fro)
  | .len, [.scr xs] => some (.int xs.length, .fro)
  | .list, [.lst xs] => some (.lst xs, .fre)
  | .list, [.tup xs] => some (.lst xs, .fre)
  | .tuple, [.lst xs] => some (.tup xs, .fro)
  | .tuple, [.tup xs] => some (.tup xs, .fro)
  | .sum, [.lst xs] => (intsOf xs).map fun ns => (.int ns.sum, .fro)
  | .sum, [.tup xs] => (intsOf xs).map fun ns => (.int ns.sum, .fro)
  | .all, [.lst xs] => (blsOf xs).map fun bs => (.bl (bs.all id), .fro)
  | .max, [.lst xs] => (intsOf xs).bind fun ns => if 0 < ns.length then some (.int (maxI ns), .fro) else none
  | .min, [.lst xs] => (intsOf xs).bind fun ns => if 0 < ns.length then some (.int (minI ns), .fro) else none
  | .max, [.int i, .int j] => some (.int (if j > i then j else i), .fro)
  | .min, [.int i, .int j] => some (.int (if j < i then j else i), .fro)
  | .abs, [.int i] => some (.int (if i < 0 then -i else i), .fro)
  | .int, [.int i] => some (.int i, .fro)
  | .int, [.bl k] => some (.int (if k then 1 else 0), .fro)
  | .str, [.int i] => if i.natAbs.log2 < 1920 then some (.str (Str.ofString (toString i)), .fro) else none
  | .sorted, [.lst xs] => (intsOf xs).map fun ns => (.lst ((sortI ns).map D.int), .fre)
  | .sorted, [.dic kds] => (keysI kds).map fun ns => (.lst ((sortI ns).map D.int), .fre)
  | _, _ => none
def isiD (x : D) (t : TY) : Option Bool :=
  match x, t with
  | .obj _, _ => none
  | .exc _, _ => none
  | .fn _, _ => none
  | .dic _, _ => none
  | .int _, .int => some true
  | .bl _, .int => some true
  | .bl _, .bool => some true
  | .str _, .str => some true
  | .tup _, .tuple => some true
  | .lst _, .list => some true
  | .scr _, _ => none
  | _, _ => some false
def methD (m : MT) (x : D) (ds : List D) : Option D :=
  match m, x, ds with
  | .get, .dic kds, [k] => (keyOf k).map fun k => (getD' kds k).getD .non
  | .get, .dic kds, [k, d] => (keyOf k).map fun k => (getD' kds k).getD d
  | .count, .lst xs, [.int k] => (intsOf xs).map fun ns => .int (ns.count k)
  | .index, .lst xs, [y] => if flat y && xs.all flat then ((toPys xs).findIdx? fun z => PyData.eqv z (toPy y)).map fun (j : Nat) => .int j else none
  | _, _, _ => none
/-- the receiver is of the method's type -/
def recv (m : MT) (x : D) : Bool :=
  match m, x with
  | .get, .dic _ => true
  | .count, .lst _ => true
  | .index, .lst _ => true
  | _, _ => false
def rngD (lo hi : Int) : Option (List D) := if -4611686018427387904 ≤ lo ∧ lo < 4611686018427387904 ∧ -4611686018427387904 ≤ hi ∧ hi < 4611686018427387904 then some ((List.range (hi - lo).toNat).map fun (i : Nat) => .int (lo + i)) else none
def enumD : Int → List D → List D
  | _, [] => []
  | i, d :: ds => .tup [.int i, d] :: enumD (i + 1) ds
def zipD : List D → List D → List D
  | a :: as, b :: bs => .tup [a, b] :: zipD as bs
  | _, _ => []

def bindT (t : Tgt) (d : D) (s : S) : Option S :=
  match t with
  | .nm i => some (s.set i (.fro d))
  | .tp is => match d with
    | .tup ds => if ds.length = is.length then some ((is.zip ds).foldl (fun s p => s.set p.1 (.fro p.2)) s) else none
    | _ => none
def S.wipe (s : S) : List Nat → S
  | [] => s
  | v :: vs => (s.wipe vs).set v .un
/-- the slots of vs as they were in s0 -/
def S.back (s s0 : S) : List Nat → S
  | [] => s
  | v :: vs => (s.back s0 vs).set v (s0.ρ.getD v .un)
def S.fzs (s : S) : List Val → S
  | [] => s
  | r :: rs => (s.fz r.2).fzs rs

def opt {α : Type} (o : Option α) (s : S) : R α := match o with
  | some a => .ok a s
  | none => .stuck
def afterCall (rs : List Val) (s : S) : CRes → R Val
  | .ok d own w => .ok (d, if own then .fre else .fro) { (if imm d then s else s.fzs rs) with w := w }
  | .exc k w => .exc k { s with w := w }
  | .stuck => .stuck
def asBl (r : R Val) : R Bool := r.bind fun x s => opt (blOf x.1) s
/-- one clause: the items one by one -/
def lcL (tgt : Tgt) (own : List Nat) (cond : S → R Bool) (elt : S → R D) : List D → List D → S → R (List D)
  | [], acc, s => .ok acc s
  | d :: ds, acc, s => match bindT tgt d (s.wipe own) with
    | none => .stuck
    | some s1 => (cond s1).bind fun b s2 => if b then (elt s2).bind fun y s3 => if acc.length < LEN then lcL tgt own cond elt ds (acc ++ [y]) s3 else .stuck else lcL tgt own cond elt ds acc s2
def noExc {α : Type} : R α → R α
  | .exc _ _ => .stuck
  | r => r

mutual
def evalE (C : Call) : DE → S → R Val
  | .var i, s => match s.ρ[i]? with
    | some (.fro d) => .ok (d, .fro) s
    | some (.own d) => .ok (d, .bor i) s
    | _ => .stuck
  | .glob _ n, s => .ok (.int n, .fro) s
  | .int n, s => .ok (.int n, .fro) s
  | .bl b, s => .ok (.bl b, .fro) s
  | .str x, s => .ok (.str x, .fro) s
  | .non, s => .ok (.non, .fro) s
  | .bin o a b, s => (evalE C a s).bind fun x s => (evalE C b s).bind fun y s => opt (binD o x.1 y.1) s
  | .neg a, s => (evalE C a s).bind fun x s => opt ((intOf x.1).map fun i => (.int (-i), .fro)) s
  | .not a, s => (asBl (evalE C a s)).bind fun b s => .ok (.bl (!b), .fro) s
  | .and es, s => evalAnd C es s
  | .or es, s => evalOr C es s
  | .cmp o a b, s => (evalE C a s).bind fun x s => (evalE C b s).bind fun y s => opt ((cmpD o x.1 y.1).map fun b => (.bl b, .fro)) s
  | .chain o1 o2 a b c, s => (evalE C a s).bind fun x s => (evalE C b s).bind fun y s => (opt (cmpD o1 x.1 y.1) s).bind fun t s =>
      if t then (evalE C c s).bind fun z s => opt ((cmpD o2 y.1 z.1).map fun b => (.bl b, .fro)) s else .ok (.bl false, .fro) s
  | .isN n a, s => (evalE C a s).bind fun x s => match x.1 with
    | .non => .ok (.bl (!n), .fro) s
    | _ => .ok (.bl n, .fro) s
  | .isB n a b, s => (asBl (evalE C a s)).bind fun x s => .ok (.bl (if n then !decide (x = b) else decide (x = b)), .fro) s
  | .ife c a b, s => (asBl (evalE C c s)).bind fun t s => if t then evalE C a s else evalE C b s
  | .tup es, s => (evalFz C es s).bind fun ds s => if ds.length ≤ 1000 then .ok (.tup ds, .fro) s else .stuck
  | .lst es, s => (evalFz C es s).bind fun ds s => if ds.length ≤ 1000 then .ok (.lst ds, .fre) s else .stuck
  | .dic0, s => .ok (.dic [], .fre) s
  | .ix a i, s => (evalE C a s).bind fun x s => (evalE C i s).bind fun y s => opt ((ixD x.1 y.1).map fun d => (d, .fro)) s
  | .slice a lo hi, s => (evalE C a s).bind fun x s => (evalO C lo s).bind fun l s => (evalO C hi s).bind fun h s => opt (sliceD x.1 l h) s
  | .revs a, s => (evalE C a s).bind fun x s => match x.1 with
    | .lst ds => .ok (.lst ds.reverse, .fre) s
    | _ => .stuck
  | .bi b es, s => (evalEs C es s).bind fun rs s => opt (biD b (rs.map (·.1))) s
  | .isi a t, s => (evalE C a s).bind fun x s => opt ((isiD x.1 t).map fun b => (.bl b, .fro)) s
  | .meth m a es, s => (evalE C a s).bind fun x s => if recv m x.1 then (evalFz C es s).bind fun ds s => opt ((methD m x.1 ds).map fun d => (d, .fro)) s else .stuck
  | .call k es, s => (evalEs C es s).bind fun rs s => afterCall rs s (C k (rs.map (·.1)) s.w)
  | .lc src tgt own cond elt, s => (evalS C src s).bind fun ds s => noExc ((lcL tgt (own.map (·.2)) (fun s => evalC C cond s) (fun s => (evalE C elt s).bind fun y s => .ok y.1 (s.fz y.2)) ds [] s).bind fun ys s1 => .ok (.lst ys, .fre) (s1.back s (own.map (·.2))))
  | .orT a b, s => (evalE C a s).bind fun x s => match truD x.1 with
    | some true => .ok x s
    | some false => evalE C b s
    | none => .stuck
  | .setf b a, s => (evalE C a s).bind fun x s => opt (setD b x.1) s
  | .srtI a, s => (evalE C a s).bind fun x s => opt (itemsD x.1) s
  | .lrng a b, s => (evalE C a s).bind fun x s => (evalE C b s).bind fun y s => opt ((intOf x.1).bind fun m => (intOf y.1).bind fun n => lrngD m n) s
def evalEs (C : Call) : DEs → S → R (List Val)
  | .nil, s => .ok [] s
  | .cons e es, s => (evalE C e s).bind fun x s => (evalEs C es s).bind fun xs s => .ok (x :: xs) s
/-- each made read only as soon as it is there -/
def evalFz (C : Call) : DEs → S → R (List D)
  | .nil, s => .ok [] s
  | .cons e es, s => (evalE C e s).bind fun x s => (evalFz C es (s.fz x.2)).bind fun xs s => .ok (x.1 :: xs) s
def evalAnd (C : Call) : DEs → S → R Val
  | .nil, _ => .stuck
  | .cons a .nil, s => evalE C a s
  | .cons a (.cons b r), s => (asBl (evalE C a s)).bind fun t s => if t then evalAnd C (.cons b r) s else .ok (.bl false, .fro) s
def evalOr (C : Call) : DEs → S → R Val
  | .nil, _ => .stuck
  | .cons a .nil, s => evalE C a s
  | .cons a (.cons b r), s => (asBl (evalE C a s)).bind fun t s => if t then .ok (.bl true, .fro) s else evalOr C (.cons b r) s
def evalO (C : Call) : DO → S → R (Option Int)
  | .none, s => .ok none s
  | .some e, s => (evalE C e s).bind fun x s => opt ((intOf x.1).map some) s
def evalC (C : Call) : DO → S → R Bool
  | .none, s => .ok true s
  | .some e, s => asBl (evalE C e s)
def evalS (C : Call) : DSrc → S → R (List D)
  | .seq a, s => (evalE C a s).bind fun x s => match x.1 with
    | .lst ds => .ok ds (s.fz x.2)
    | .tup ds => .ok ds (s.fz x.2)
    | _ => .stuck
  | .rng1 a, s => (evalE C a s).bind fun x s => opt ((intOf x.1).bind fun n => rngD 0 n) s
  | .rng2 a b, s => (evalE C a s).bind fun x s => (evalE C b s).bind fun y s => opt ((intOf x.1).bind fun m => (intOf y.1).bind fun n => rngD m n) s
  | .enum a, s => (evalE C a s).bind fun x s => match x.1 with
    | .lst ds => .ok (enumD 0 ds) (s.fz x.2)
    | _ => .stuck
  | .zip a b, s => (evalE C a s).bind fun x s => (evalE C b (s.fz x.2)).bind fun y s => match x.1, y.1 with
    | .lst xs, .lst ys => .ok (zipD xs ys) (s.fz y.2)
    | .tup xs, .tup ys => .ok (zipD xs ys) (s.fz y.2)
    | _, _ => .stuck
end

/-! ### statements -/
mutual
inductive DS where
  | asg (i : Nat) (e : DE)
  | asgT (is : List Nat) (e : DE)
  | par (is : List Nat) (es : DEs)
  | setix (i : Nat) (j e : DE)
  | append (i : Nat) (e : DE) | extend (i : Nat) (e : DE)
  | expr (e : DE)
  | ret (e : DE)
  | ite (c : DE) (a b : DB)
  | for (tgt : Tgt) (src : DSrc) (body : DB)
  | while (c : DE) (body : DB)
  | brk | pass
  | raise (k : Nat)
inductive DB where
  | nil | cons (s : DS) (b : DB)
end
inductive Out where
  | nx (s : S) | rt (r : Val) (s : S) | bk (s : S) | ct (s : S) | exc (k : Nat) (s : S) | stuck
def R.out {α : Type} (r : R α) (f : α → S → Out) : Out :=
  match r with
  | .ok a s => f a s
  | .exc k s => .exc k s
  | .stuck => .stuck
def clOf (d : D) : Kd → Cl
  | .fre => .own d
  | _ => .fro d
/-- a value goes to slot i -/
def S.put (s : S) (i : Nat) (r : Val) : S := (s.fz r.2).set i (clOf r.1 r.2)
def forL (tgt : Tgt) (body : S → Out) : List D → S → Out
  | [], s => .nx s
  | d :: ds, s => match bindT tgt d s with
    | none => .stuck
    | some s1 => match body s1 with
      | .nx s2 => forL tgt body ds s2
      | .ct s2 => forL tgt body ds s2
      | .bk s2 => .nx s2
      | o => o
def whileL (c : S → R Bool) (body : S → Out) : Nat → S → Out
  | 0, _ => .stuck
  | n + 1, s => (c s).out fun b s1 => if b then match body s1 with
      | .nx s2 => whileL c body n s2
      | .ct s2 => whileL c body n s2
      | .bk s2 => .nx s2
      | o => o
    else .nx s1
def WF : Nat := 1000000
def appendS (i : Nat) (d : D) (s : S) : Out := match s.ρ[i]? with
  | some (.own (.lst ds)) => if ds.length < LEN then .nx (s.set i (.own (.lst (ds ++ [d])))) else .stuck
  | _ => .stuck
def extendS (i : Nat) (d : D) (s : S) : Out := match s.ρ[i]?, d with
  | some (.own (.lst ds)), .lst es => if ds.length + es.length ≤ LEN then .nx (s.set i (.own (.lst (ds ++ es)))) else .stuck
  | _, _ => .stuck
def setS (i : Nat) (x d : D) (s : S) : Out := match s.ρ[i]? with
  | some (.own (.lst ds)) => (match x with
    | .int k => (match ixN ds.length k with
      | some n => .nx (s.set i (.own (.lst (ds.set n d))))
      | none => .stuck)
    | _ => .stuck)
  | some (.own (.dic kds)) => (match keyOf x with
    | some k => if kds.length < LEN then .nx (s.set i (.own (.dic (putD kds k d)))) else .stuck
    | none => .stuck)
  | _ => .stuck
mutual
def exec (C : Call) : DS → S → Out
  | .asg i e, s => (evalE C e s).out fun r s => .nx (s.put i r)
  | .asgT is e, s => (evalE C e s).out fun r s => match bindT (.tp is) r.1 (s.fz r.2) with
    | some s => .nx s
    | none => .stuck
  | .par is es, s => (evalEs C es s).out fun rs s => if rs.length = is.length then .nx ((is.zip rs).foldl (fun s p => s.set p.1 (clOf p.2.1 p.2.2)) (s.fzs rs)) else .stuck
  | .setix i j e, s => match s.ρ[i]? with
    | some (.own _) => (evalE C e s).out fun r s => (evalE C j (s.fz r.2)).out fun x s => setS i x.1 r.1 s
    | _ => .stuck
  | .append i e, s => match s.ρ[i]? with
    | some (.own (.lst _)) => (evalE C e s).out fun r s => appendS i r.1 (s.fz r.2)
    | _ => .stuck
  | .extend i e, s => match s.ρ[i]? with
    | some (.own (.lst _)) => (evalE C e s).out fun r s => extendS i r.1 s
    | _ => .stuck
  | .expr e, s => (evalE C e s).out fun _ s => .nx s
  | .ret e, s => (evalE C e s).out fun r s => .rt r s
  | .ite c a b, s => (asBl (evalE C c s)).out fun t s => if t then execB C a s else execB C b s
  | .for tgt src body, s => (evalS C src s).out fun ds s => forL tgt (fun s => execB C body s) ds s
  | .while c body, s => whileL (fun s => asBl (evalE C c s)) (fun s => execB C body s) WF s
  | .brk, s => .bk s
  | .pass, s => .nx s
  | .raise k, s => .exc k s
def execB (C : Call) : DB → S → Out
  | .nil, s => .nx s
  | .cons st b, s => match exec C st s with
    | .nx s1 => execB C b s1
    | o => o
end

structure FD where
  name : Str
  ar : Nat
  N : List Str
  body : DB
def start (N : List Str) (ds : List D) : List Cl := ds.map Cl.fro ++ List.replicate (N.length - ds.length) .un
/-- the kind of a returned value: one's own if it was one's own -/
def ownK (s : S) : Kd → Bool
  | .fro => false
  | .fre => true
  | .bor i => match s.ρ[i]? with
    | some (.own _) => true
    | _ => false
def finish : Out → CRes
  | .nx s => .ok .non false s.w
  | .rt r s => .ok r.1 (ownK s r.2) s.w
  | .exc k s => .exc k s.w
  | _ => .stuck
def run (T : List FD) : Nat → Call
  | 0 => fun _ _ _ => .stuck
  | n + 1 => fun k ds w => match T[k]? with
    | none => .stuck
    | some f => if ds.length = f.ar then finish (execB (run T n) f.body ⟨start f.N ds, w⟩) else .stuck
end DL

/-! KX1: sum of a tuple, a tuple taken once or not at all. -/
namespace L2
open PySem PySem.Spec PyProof.Rows
section
variable {X : Cx}
def rSumT (K : PySem.W.Frag) : List V → Hp → VK → Prop := fun vs H Q => ∃ (a : Addr) (ns : List Int), vs = [V.ref a] ∧ SqT K H a (ns.map V.int) ∧ Q (.int ns.sum) H
theorem cr_sumT (hc : X.calm = true) : CallR X (.builtin "sum") (rSumT X.K) := by
  intro pins s σ H vs us Q I r h
  obtain ⟨a, ns, rfl, hs, q⟩ := h
  obtain ⟨its, rv, hl, _⟩ := I.tuple hs
  rw [Vals.ref1 r]
  obtain ⟨xs, e⟩ := rv.ints.allInts.items
  have hn : numsOf (intItems xs).toList = ns := by rw [← e]; exact rv.ints.numsOf
  rw [nums_intItems] at hn
  rw [e] at hl
  refine PySem.W.ktm_sumG (I.ok.hd hc) hl fun h' tk t' hk => ?_
  rw [preSum_eq, List.take_of_length_le (by simp), hn]
  exact ⟨.int _, H, I.kept hk, ⟨_, rfl⟩, q⟩

theorem tuple_mulSame (l : Addr) (items : Array Value) (n : Nat) (dd : Option Addr) (sl : Array (Option Value)) (x : Int) (u : Tok) (c0 : (decide (x < -(2 ^ 63)) || decide (x ≥ 2 ^ 63)) = false) (c1 : (items.isEmpty || x == 1) = true) :
    Meets (Builtin.«tuple.__mul__» ⟨[.ref l, .int x u], []⟩) (fun _ R s => s.heap.get? l = some { cls := .type "tuple", dict := dd, data := .seq items n, slots := sl } ∧
      R (.ok (.ret (Value.ref l))) s) :=
  .of_wp fun prog w A R s h => by
    obtain ⟨hp, g, d, tk, os⟩ := s
    obtain ⟨hl, h⟩ := h
    have f1 := AutoSeq1.idx_int
    wp_walk using wpAny_loadPart' hl
    repeat (first
      | (refine wpAny_ite_false (decide_eq_false (by rw [c0]; exact Bool.false_ne_true)) ?_; wp_walk using wpAny_loadPart' hl)
      | (refine wpAny_ite_true (decide_eq_true (by rw [c1])) ?_; wp_walk using wpAny_loadPart' hl))
    exact ⟨_, rfl, h⟩
theorem tuple_mulNone (l : Addr) (items : Array Value) (n : Nat) (dd : Option Addr) (sl : Array (Option Value)) (x : Int) (u : Tok) (c0 : (decide (x < -(2 ^ 63)) || decide (x ≥ 2 ^ 63)) = false) (c1 : (items.isEmpty || x == 1) = false) (c2 : (decide (x ≤ 0) || items.isEmpty) = true) :
    Meets (Builtin.«tuple.__mul__» ⟨[.ref l, .int x u], []⟩) (fun _ R s => s.heap.get? l = some { cls := .type "tuple", dict := dd, data := .seq items n, slots := sl } ∧
      R (.ok (.ret (Value.ref s.heap.objs.size))) { s with heap := s.heap.push { cls := Value.type "tuple", data := Data.seq #[] }, toks := s.toks }) :=
  .of_wp fun prog w A R s h => by
    obtain ⟨hp, g, d, tk, os⟩ := s
    obtain ⟨hl, h⟩ := h
    have f1 := AutoSeq1.idx_int
    wp_walk using wpAny_loadPart' hl
    repeat (first
      | (refine wpAny_ite_false (decide_eq_false (by rw [c0]; exact Bool.false_ne_true)) ?_; wp_walk using wpAny_loadPart' hl)
      | (refine wpAny_ite_false (decide_eq_false (by rw [c1]; exact Bool.false_ne_true)) ?_; wp_walk using wpAny_loadPart' hl)
      | (refine wpAny_ite_true (decide_eq_true (by rw [c2])) ?_; wp_walk using wpAny_loadPart' hl))
    exact ⟨_, rfl, h⟩
/-- once: the tuple itself; not at all: an empty one -/
def rRepT1 (K : PySem.W.Frag) : R2 := fun x y H Q => ∃ l k xs, x = .ref l ∧ y = .int k ∧ SqT K H l xs ∧ xs ≠ [] ∧ -1000 ≤ k ∧ k ≤ 1 ∧ (k = 1 → Q (.ref l) H) ∧ (k ≤ 0 → ∀ p, H p = none → Q (.ref p) (upd H p (.tup [])))
theorem op_repT1 : OpR X (binaryOp .Mult) (rRepT1 X.K) := by
  intro pins s σ H x y v u Q I rx ry h
  obtain ⟨l, k, xs, rfl, rfl, hT, hne, h1, h2, q1, q0⟩ := h
  cases rx
  obtain ⟨t, rfl⟩ := ry
  obtain ⟨its, r, ⟨⟨cls, dd, data, sl⟩, ho, hc, n, hd⟩, hs⟩ := I.tuple hT
  simp only at hc hd
  subst hc hd
  have hle : its.length = xs.length := r.length.symm
  have hn : its ≠ [] := fun e => hne (by
    rw [e] at hle
    exact List.eq_nil_of_length_eq_zero hle.symm)
  have hi : its.toArray.isEmpty = false := by
    cases its with
    | nil => exact absurd rfl hn
    | cons a b => rfl
  have c0 : (decide (k < -(2 ^ 63)) || decide (k ≥ 2 ^ 63)) = false := by
    rw [decide_eq_false (by omega), decide_eq_false (by omega)] <;> rfl
  by_cases hk : k = 1
  · subst hk
    refine wpAny_binaryOp_repeat_ref (T := "tuple") (U := "int") (by decide) ⟨_, ho, rfl⟩ (fun s' => typeIs_int s' 1 t) noFill_tuple_mul F.fills_int_mul F.slot_int_rmul repeat_tuple F.slot_int_index.lookup
      (call_meets F.slot_int_rmul (typeIs_int s 1 t) F.entry_int_rmul (F.args_int_rmul_2 _ _) (int_rmul_tuple 1 t l its.toArray n dd sl)
        ⟨ho, rfl, ⟨_, ho, rfl⟩, call_meets F.slot_tuple_mul ⟨_, ho, rfl⟩ F.entry_tuple_mul (F.args_tuple_mul_2 _ _) (tuple_mulSame l its.toArray n dd sl 1 t c0 (by rw [hi]; rfl)) ⟨ho, ?_⟩⟩)
    exact ⟨.ref l, H, I, rfl, q1 rfl⟩
  · have c1 : (its.toArray.isEmpty || k == 1) = false := by
      rw [hi, Bool.false_or]
      exact beq_eq_false_iff_ne.mpr hk
    have c2 : (decide (k ≤ 0) || its.toArray.isEmpty) = true := by
      rw [hi, Bool.or_false]
      exact decide_eq_true (by omega)
    refine wpAny_binaryOp_repeat_ref (T := "tuple") (U := "int") (by decide) ⟨_, ho, rfl⟩ (fun s' => typeIs_int s' k t) noFill_tuple_mul F.fills_int_mul F.slot_int_rmul repeat_tuple F.slot_int_index.lookup
      (call_meets F.slot_int_rmul (typeIs_int s k t) F.entry_int_rmul (F.args_int_rmul_2 _ _) (int_rmul_tuple k t l its.toArray n dd sl)
        ⟨ho, rfl, ⟨_, ho, rfl⟩, call_meets F.slot_tuple_mul ⟨_, ho, rfl⟩ F.entry_tuple_mul (F.args_tuple_mul_2 _ _) (tuple_mulNone l its.toArray n dd sl k t c0 c1 c2) ⟨ho, ?_⟩⟩)
    refine ⟨.ref s.heap.objs.size, _, I.laid (t' := s.toks) (o := .tup []) (fun b ob q => Heap.get?_push_of_some _ q) (Nat.le_refl _) ?_, rfl, q0 (by omega) _ (I.hok.fresh (Nat.le_refl _))⟩
    exact ⟨by simp, [], .nil, IsTup.new _ _⟩
end
end L2

/-! DL3: what is wanted of an evaluation; the cases of expressions that are no calls. -/
namespace DL
open PySem L2

structure PCtx where
  fns : List (Nat × Str × Nat)
  gints : List (Str × Int)
structure Ctx where
  p : PCtx
  N : List Str
  sc : Scope

/-- the class of the k-th refusal, by the program's own addresses -/
abbrev CA := Nat → Addr
section
variable (K : PySem.W.Frag) (W : WX) (ca : CA)
def WR {α : Type} (Γ : Gh) (σ : St) (H : Hp) (s : S) (okP : Gh → Hp → S → α → Prop) : R α → Prop
  | .ok a s' => ∀ Γ' H', Step Γ σ H s Γ' H' s' → RS K Γ' σ H' s' → okP Γ' H' s' a
  | .exc k s' => ∀ Γ' H', Step Γ σ H s Γ' H' s' → RS K Γ' σ H' s' → W (.ref (ca k)) none σ H'
  | .stuck => False
def Fresh (H : Hp) (v : V) (k : Kd) : Prop := k = .fre → ∀ p, v = .ref p → H p = none
def WE (Γ : Gh) (σ : St) (H : Hp) (s : S) (Q : VK) : R Val → Prop := WR K W ca Γ σ H s fun Γ' H' s' r => ∀ v, RV K Γ' σ H' s' v r → Fresh H v r.2 → Q v H'
def WT (Γ : Gh) (σ : St) (H : Hp) (s : S) (Q : Bool → Hp → Prop) : R Bool → Prop := WR K W ca Γ σ H s fun _ H' _ b => Q b H'
/-- values with their kinds; what is new stands apart -/
inductive RVs (Γ : Gh) (σ : St) (H : Hp) (s : S) : List V → List Val → Prop
  | nil : RVs Γ σ H s [] []
  | cons {v : V} {vs : List V} {r : Val} {rs : List Val} : RV K Γ σ H s v r → (r.2 = .fre → ∀ w q, (w, q) ∈ vs.zip rs → q.2 = Kd.fre → w ≠ v) → RVs Γ σ H s vs rs → RVs Γ σ H s (v :: vs) (r :: rs)
def Freshs (H : Hp) (vs : List V) (rs : List Val) : Prop := ∀ v r, (v, r) ∈ vs.zip rs → Fresh H v r.2
def WL (Γ : Gh) (σ : St) (H : Hp) (s : S) (Q : List V → Hp → Prop) : R (List Val) → Prop := WR K W ca Γ σ H s fun Γ' H' s' rs => ∀ vs, RVs K Γ' σ H' s' vs rs → Freshs H vs rs → Q vs H'
def WZ (Γ : Gh) (σ : St) (H : Hp) (s : S) (Q : List V → Hp → Prop) : R (List D) → Prop := WR K W ca Γ σ H s fun Γ' H' _ ds => ∀ vs, RepL K Γ'.F H' vs ds → Q vs H'
end

section
variable {K : PySem.W.Frag} {W : WX} {ca : CA} {Γ Γ1 : Gh} {σ : St} {H H1 : Hp} {s s1 : S}
theorem WR.bind {α β : Type} {okP : Gh → Hp → S → β → Prop} {r : R α} {f : α → S → R β} (h : WR K W ca Γ σ H s okP (r.bind f)) {ok1 : Gh → Hp → S → α → Prop}
    (k : ∀ Γ1 H1 s1 a, Step Γ σ H s Γ1 H1 s1 → RS K Γ1 σ H1 s1 → WR K W ca Γ σ H s okP (f a s1) → ok1 Γ1 H1 s1 a) : WR K W ca Γ σ H s ok1 r := by
  cases r with
  | ok a s' => exact fun Γ' H' st R => k Γ' H' s' a st R h
  | exc e s' => exact h
  | stuck => exact h
theorem WR.shift {α : Type} {okP ok1 : Gh → Hp → S → α → Prop} {r : R α} (st : Step Γ σ H s Γ1 H1 s1) (h : WR K W ca Γ σ H s okP r) (k : ∀ Γ' H' s' a, Step Γ1 σ H1 s1 Γ' H' s' → RS K Γ' σ H' s' → okP Γ' H' s' a → ok1 Γ' H' s' a) : WR K W ca Γ1 σ H1 s1 ok1 r := by
  cases r with
  | ok a s' => exact fun Γ' H' st' R => k _ _ _ _ st' R (h Γ' H' (st.trans st') R)
  | exc e s' => exact fun Γ' H' st' R => h Γ' H' (st.trans st') R
  | stuck => exact h
theorem Fresh.back (st : Step Γ σ H s Γ1 H1 s1) {v : V} {k : Kd} (h : Fresh H1 v k) : Fresh H v k := fun e p q => st.none_back (h e p q)
theorem WE.shift {Q : VK} {r : R Val} (st : Step Γ σ H s Γ1 H1 s1) (h : WE K W ca Γ σ H s Q r) : WE K W ca Γ1 σ H1 s1 Q r := WR.shift st h fun _ _ _ _ _ _ q v rv fr => q v rv (fr.back st)
theorem WT.shift {Q : Bool → Hp → Prop} {r : R Bool} (st : Step Γ σ H s Γ1 H1 s1) (h : WT K W ca Γ σ H s Q r) : WT K W ca Γ1 σ H1 s1 Q r := WR.shift st h fun _ _ _ _ _ _ q => q
theorem WL.shift {Q : List V → Hp → Prop} {r : R (List Val)} (st : Step Γ σ H s Γ1 H1 s1) (h : WL K W ca Γ σ H s Q r) : WL K W ca Γ1 σ H1 s1 Q r := WR.shift st h fun _ _ _ _ _ _ q v rv fr => q v rv fun w x m => (fr w x m).back st
theorem WZ.shift {Q : List V → Hp → Prop} {r : R (List D)} (st : Step Γ σ H s Γ1 H1 s1) (h : WZ K W ca Γ σ H s Q r) : WZ K W ca Γ1 σ H1 s1 Q r := WR.shift st h fun _ _ _ _ _ _ q => q
/-- what goes on behind an expression, at the state behind it -/
theorem WE.bindE {Q Q1 : VK} {r : R Val} {f : Val → S → R Val} (h : WE K W ca Γ σ H s Q (r.bind f))
    (k : ∀ Γ1 H1 s1 v x, Step Γ σ H s Γ1 H1 s1 → RS K Γ1 σ H1 s1 → RV K Γ1 σ H1 s1 v x → Fresh H v x.2 → WE K W ca Γ1 σ H1 s1 Q (f x s1) → Q1 v H1) : WE K W ca Γ σ H s Q1 r :=
  WR.bind h fun Γ1 H1 s1 a st R w v rv fr => k Γ1 H1 s1 v a st R rv fr (WE.shift st w)
theorem WT.bindE {Q : Bool → Hp → Prop} {Q1 : VK} {r : R Val} {f : Val → S → R Bool} (h : WT K W ca Γ σ H s Q (r.bind f))
    (k : ∀ Γ1 H1 s1 v x, Step Γ σ H s Γ1 H1 s1 → RS K Γ1 σ H1 s1 → RV K Γ1 σ H1 s1 v x → Fresh H v x.2 → WT K W ca Γ1 σ H1 s1 Q (f x s1) → Q1 v H1) : WE K W ca Γ σ H s Q1 r :=
  WR.bind h fun Γ1 H1 s1 a st R w v rv fr => k Γ1 H1 s1 v a st R rv fr (WT.shift st w)
theorem WE.bindT {Q : VK} {Q1 : Bool → Hp → Prop} {r : R Bool} {f : Bool → S → R Val} (h : WE K W ca Γ σ H s Q (r.bind f))
    (k : ∀ Γ1 H1 s1 b, Step Γ σ H s Γ1 H1 s1 → RS K Γ1 σ H1 s1 → WE K W ca Γ1 σ H1 s1 Q (f b s1) → Q1 b H1) : WT K W ca Γ σ H s Q1 r :=
  WR.bind h fun Γ1 H1 s1 a st R w => k Γ1 H1 s1 a st R (WE.shift st w)
theorem WT.bindT {Q : Bool → Hp → Prop} {Q1 : Bool → Hp → Prop} {r : R Bool} {f : Bool → S → R Bool} (h : WT K W ca Γ σ H s Q (r.bind f))
    (k : ∀ Γ1 H1 s1 b, Step Γ σ H s Γ1 H1 s1 → RS K Γ1 σ H1 s1 → WT K W ca Γ1 σ H1 s1 Q (f b s1) → Q1 b H1) : WT K W ca Γ σ H s Q1 r :=
  WR.bind h fun Γ1 H1 s1 a st R w => k Γ1 H1 s1 a st R (WT.shift st w)
theorem WE.bindL {Q : VK} {Q1 : List V → Hp → Prop} {r : R (List Val)} {f : List Val → S → R Val} (h : WE K W ca Γ σ H s Q (r.bind f))
    (k : ∀ Γ1 H1 s1 vs rs, Step Γ σ H s Γ1 H1 s1 → RS K Γ1 σ H1 s1 → RVs K Γ1 σ H1 s1 vs rs → Freshs H vs rs → WE K W ca Γ1 σ H1 s1 Q (f rs s1) → Q1 vs H1) : WL K W ca Γ σ H s Q1 r :=
  WR.bind h fun Γ1 H1 s1 a st R w vs rv fr => k Γ1 H1 s1 vs a st R rv fr (WE.shift st w)
theorem WE.bindZ {Q : VK} {Q1 : List V → Hp → Prop} {r : R (List D)} {f : List D → S → R Val} (h : WE K W ca Γ σ H s Q (r.bind f))
    (k : ∀ Γ1 H1 s1 vs ds, Step Γ σ H s Γ1 H1 s1 → RS K Γ1 σ H1 s1 → RepL K Γ1.F H1 vs ds → WE K W ca Γ1 σ H1 s1 Q (f ds s1) → Q1 vs H1) : WZ K W ca Γ σ H s Q1 r :=
  WR.bind h fun Γ1 H1 s1 a st R w vs rv => k Γ1 H1 s1 vs a st R rv (WE.shift st w)
/-- at the end: a value is here -/
theorem WE.here {Q : VK} {r : Val} {v : V} (R : RS K Γ σ H s) (h : WE K W ca Γ σ H s Q (.ok r s)) (rv : RV K Γ σ H s v r) (fr : Fresh H v r.2) : Q v H := h Γ H .refl R v rv fr
theorem WE.fro {Q : VK} {d : D} {v : V} (R : RS K Γ σ H s) (h : WE K W ca Γ σ H s Q (.ok (d, .fro) s)) (rv : Rep K Γ.F H v d) : Q v H := h.here R rv fun e => nomatch e
/-- .. behind the making of a read only object -/
theorem WE.lay {Q : VK} {d : D} {p : Addr} {o : HO} (R : RS K Γ σ H s) (h : WE K W ca Γ σ H s Q (.ok (d, .fro) s)) (hp : H p = none) (rv : Rep K (Γ.add p).F (upd H p o) (.ref p) d) : Q (.ref p) (upd H p o) := by
  obtain ⟨st, R'⟩ := R.lay o hp
  exact h _ _ st R' _ rv fun e => nomatch e
/-- .. of an own one -/
theorem WE.layOwn {Q : VK} {d : D} {p : Addr} {o : HO} (R : RS K Γ σ H s) (h : WE K W ca Γ σ H s Q (.ok (d, .fre) s)) (hp : H p = none) (rv : Cell K Γ.F (upd H p o) p d) : Q (.ref p) (upd H p o) := by
  obtain ⟨st, R'⟩ := R.layOwn o hp
  exact h _ _ st R' _ (R.rvNew hp rv) fun _ q e => by cases e; exact hp
theorem upd_keep {H : Hp} {p a : Addr} {o u : HO} (hp : H p = none) (e : H a = some u) : upd H p o a = some u := by rw [upd_ne (ne_of_none e hp)]; exact e
theorem RepL.laid {F : Addr → Prop} {p : Addr} {o : HO} {vs : List V} {ds : List D} (hp : H p = none) (h : RepL K F H vs ds) : RepL K F (upd H p o) vs ds := RepL.mono (fun _ z => z) (fun a u _ e => upd_keep hp e) ds vs h
theorem RepL.laidF {F F' : Addr → Prop} {p : Addr} {o : HO} {vs : List V} {ds : List D} (hp : H p = none) (hF : ∀ a, F a → F' a) (h : RepL K F H vs ds) : RepL K F' (upd H p o) vs ds := RepL.mono hF (fun a u _ e => upd_keep hp e) ds vs h
theorem cell_lst {F : Addr → Prop} {p : Addr} {vs : List V} {ds : List D} (hp : H p = none) (h : RepL K F H vs ds) : Cell K F (upd H p (.lst vs)) p (.lst ds) := ⟨vs, upd_same, h.laid hp⟩
theorem rep_tup {p : Addr} {vs : List V} {ds : List D} (hp : H p = none) (h : RepL K Γ.F H vs ds) : Rep K (Γ.add p).F (upd H p (.tup vs)) (.ref p) (.tup ds) := .tup (.inr rfl) upd_same (h.laidF hp fun a z => .inl z)
end

/-! ### what is to be shown of an expression -/
structure SE (C : Call) (ca : CA) (X : Cx) (W : WX) (d : DE) (e : Expr) : Prop where
  ex : ∃ t, PE X e t ∧ ∀ Γ σ H s Q, RS X.K Γ σ H s → WE X.K W ca Γ σ H s Q (evalE C d s) → t σ H Q
structure ST (C : Call) (ca : CA) (X : Cx) (W : WX) (d : DE) (e : Expr) : Prop where
  ex : ∃ t, PT X e t ∧ ∀ Γ σ H s Q, RS X.K Γ σ H s → WT X.K W ca Γ σ H s Q (asBl (evalE C d s)) → t σ H Q
structure SA (C : Call) (ca : CA) (X : Cx) (W : WX) (d : DEs) (e : List Expr) : Prop where
  ex : ∃ t, PA X e t ∧ ∀ Γ σ H s Q, RS X.K Γ σ H s → WL X.K W ca Γ σ H s Q (evalEs C d s) → t σ H Q
structure SZ (C : Call) (ca : CA) (X : Cx) (W : WX) (d : DEs) (e : List Expr) : Prop where
  ex : ∃ t, PA X e t ∧ ∀ Γ σ H s Q, RS X.K Γ σ H s → WZ X.K W ca Γ σ H s Q (evalFz C d s) → t σ H Q

section
variable {C : Call} {ca : CA} {X : Cx} {W : WX} {a b : DE} {e e1 e2 e3 : Expr} {pos : Pos}
/-- the general test -/
theorem ST.of (h : SE C ca X W a e) (he : ∀ whole, isTrue e X.env whole = (do let v ← whole; standAt e.pos; holding [v] (truthy v))) : ST C ca X W a e := by
  obtain ⟨t, p, i⟩ := h.ex
  refine ⟨_, pt_val p he, fun Γ σ H s Q R w => i Γ σ H s _ R (WT.bindE w fun Γ1 H1 s1 v x st R1 rv fr w1 => ?_)⟩
  cases q : blOf x.1 with
  | none => rw [q] at w1; exact w1.elim
  | some k =>
    rw [q] at w1
    obtain ⟨d, kd⟩ := x
    cases d with
    | bl k' =>
      cases (show some k' = some k from q)
      exact ⟨k, (rv.cont R1).bl, w1 _ _ .refl R1⟩
    | _ => cases q
theorem c_const {d : D} {v : V} (hp : PE X e (tC v)) (hd : ∀ s, evalE C a s = .ok (d, .fro) s) (hr : ∀ F H, Rep X.K F H v d) : SE C ca X W a e :=
  ⟨_, hp, fun Γ σ H s Q R h => by rw [hd] at h; exact h.fro R (hr _ _)⟩
theorem c_var {i : Nat} {x : Str} (hN : X.N[i]? = some x) (hv : Vis X.env.scope x) (hd : (x == ("__debug__" : Str)) = false) (hcd : (x == ("__classdict__" : Str)) = false) : SE C ca X W (.var i) (.Name x pos) := by
  refine ⟨_, pe_var hN hv hd hcd, fun Γ σ H s Q R h => ?_⟩
  cases q : s.ρ[i]? with
  | none => simp only [evalE, q] at h; exact h.elim
  | some c =>
    cases c with
    | un => simp only [evalE, q] at h; exact h.elim
    | fro d =>
      simp only [evalE, q] at h
      obtain ⟨v, h1, h2⟩ := R.fro i d q
      exact ⟨v, h1, h.fro R h2⟩
    | own d =>
      simp only [evalE, q] at h
      obtain ⟨v, h1, h2⟩ := R.own i d q
      exact ⟨v, h1, h.here R ⟨h1, .inl q⟩ fun e => nomatch e⟩
theorem c_glob {x : Str} {n : Int} {t : Tok} (hg : Gl X x) (hm : X.mg x = some (.int n t)) (hd : (x == ("__debug__" : Str)) = false) : SE C ca X W (.glob x n) (.Name x pos) :=
  ⟨_, pe_glob (v := .int n) hg hm ⟨t, rfl⟩ hd, fun Γ σ H s Q R h => h.fro (v := V.int n) R (.int n)⟩

/-! operators on values -/
def BinOk (X : Cx) (f : Value → Value → Sem Value) (g : D → D → Option Val) : Prop :=
  ∃ r, OpR X f r ∧ ∀ Γ σ H s Q x y dx dy res (W : WX) (ca : CA), RS X.K Γ σ H s → Cont X.K Γ.F H x dx → Cont X.K Γ.F H y dy → g dx dy = some res → WE X.K W ca Γ σ H s Q (.ok res s) → r x y H Q
theorem BinOk.or {f : Value → Value → Sem Value} {g g' g2 : D → D → Option Val} (h : BinOk X f g) (h' : BinOk X f g') (e : ∀ x y r, g2 x y = some r → g x y = some r ∨ g' x y = some r) : BinOk X f g2 := by
  obtain ⟨r, o, i⟩ := h
  obtain ⟨r', o', i'⟩ := h'
  refine ⟨_, o.or o', fun Γ σ H s Q x y dx dy res W ca R cx cy q w => ?_⟩
  rcases e dx dy res q with z | z
  · exact .inl (i Γ σ H s Q x y dx dy res W ca R cx cy z w)
  · exact .inr (i' Γ σ H s Q x y dx dy res W ca R cx cy z w)
theorem c_op {o : BO} {op : Operator} (hr : BinOk X (binaryOp op) (binD o)) (ha : SE C ca X W a e1) (hb : SE C ca X W b e2) : SE C ca X W (.bin o a b) (.BinOp e1 op e2 pos) := by
  obtain ⟨r, ho, hi⟩ := hr
  obtain ⟨ta, pa, ia⟩ := ha.ex
  obtain ⟨tb, pb, ib⟩ := hb.ex
  refine ⟨_, pe_op ho pa pb, fun Γ σ H s Q R h => ?_⟩
  simp only [evalE] at h
  refine ia Γ σ H s _ R (h.bindE fun Γ1 H1 s1 v x st1 R1 rv1 fr1 h1 => ib Γ1 σ H1 s1 _ R1 (h1.bindE fun Γ2 H2 s2 w y st2 R2 rv2 fr2 h2 => ?_))
  cases q : binD o x.1 y.1 with
  | none => rw [q] at h2; exact h2.elim
  | some res =>
    rw [q] at h2
    exact hi Γ2 σ H2 s2 Q v w x.1 y.1 res W ca R2 ((rv1.cont R1).step st2) (rv2.cont R2) q h2
/-- ints in, an int out -/
theorem bin_int {f : Value → Value → Sem Value} {Cd : Int → Int → Prop} {g : Int → Int → Int} {G : D → D → Option Val} (ho : OpR X f (rI Cd fun i j => .int (g i j)))
    (e : ∀ x y r, G x y = some r → ∃ i j, x = .int i ∧ y = .int j ∧ Cd i j ∧ r = (.int (g i j), .fro)) : BinOk X f G := by
  refine ⟨_, ho, fun Γ σ H s Q x y dx dy res W ca R cx cy q w => ?_⟩
  obtain ⟨i, j, rfl, rfl, hc, rfl⟩ := e dx dy res q
  exact ⟨i, j, cx.int, cy.int, hc, w.fro (v := V.int (g i j)) R (.int _)⟩
theorem bin_int0 {f : Value → Value → Sem Value} {g : Int → Int → Int} {G : D → D → Option Val} (ho : OpR X f (rI0 fun i j => .int (g i j)))
    (e : ∀ x y r, G x y = some r → ∃ i j, x = .int i ∧ y = .int j ∧ r = (.int (g i j), .fro)) : BinOk X f G := by
  refine ⟨_, ho, fun Γ σ H s Q x y dx dy res W ca R cx cy q w => ?_⟩
  obtain ⟨i, j, rfl, rfl, rfl⟩ := e dx dy res q
  exact ⟨i, j, cx.int, cy.int, w.fro (v := V.int (g i j)) R (.int _)⟩
theorem len_eq : (sizeLine : Nat) = LEN := sizeLine_eq

theorem b_sub : BinOk X (binaryOp .Sub) (binD .sub) := bin_int0 op_sub fun x y r h => by
  cases x <;> cases y <;> simp only [binD] at h <;> first | cases h | skip
  exact ⟨_, _, rfl, rfl, rfl⟩
theorem b_fdiv : BinOk X (binaryOp .FloorDiv) (binD .fdiv) := bin_int op_fdiv fun x y r h => by
  cases x <;> cases y <;> simp only [binD] at h <;> try cases h
  rename_i i j
  split at h
  · rename_i hc
    cases h
    exact ⟨i, j, rfl, rfl, hc, rfl⟩
  · cases h
theorem b_md : BinOk X (binaryOp .Mod) (binD .md) := bin_int op_mod fun x y r h => by
  cases x <;> cases y <;> simp only [binD] at h <;> try cases h
  rename_i i j
  split at h
  · rename_i hc
    cases h
    exact ⟨i, j, rfl, rfl, hc, rfl⟩
  · cases h
theorem b_pow : BinOk X (binaryOp .Pow) (binD .pow) := bin_int op_pow fun x y r h => by
  cases x <;> cases y <;> simp only [binD] at h <;> try cases h
  rename_i i j
  split at h
  · rename_i hc
    cases h
    exact ⟨i, j, rfl, rfl, hc, rfl⟩
  · cases h
/-- the shares of + and * -/
def addI : D → D → Option Val | .int a, .int b => some (.int (a + b), .fro) | _, _ => none
def addS : D → D → Option Val | .str a, .str b => if a.length + b.length ≤ LEN then some (.str (a ++ b), .fro) else none | _, _ => none
def addL : D → D → Option Val | .lst a, .lst b => if a.length + b.length ≤ LEN then some (.lst (a ++ b), .fre) else none | _, _ => none
def addT : D → D → Option Val | .tup a, .tup b => if a.length + b.length ≤ LEN then some (.tup (a ++ b), .fro) else none | _, _ => none
theorem b_addI : BinOk X (binaryOp .Add) addI := bin_int0 op_add fun x y r h => by
  cases x <;> cases y <;> simp only [addI] at h <;> first | cases h | skip
  exact ⟨_, _, rfl, rfl, rfl⟩
theorem b_addS : BinOk X (binaryOp .Add) addS := by
  refine ⟨_, op_add_str, fun Γ σ H s Q x y dx dy res W ca R cx cy q w => ?_⟩
  cases dx <;> cases dy <;> simp only [addS] at q <;> try cases q
  rename_i i j
  split at q
  · rename_i hc
    cases q
    exact ⟨i, j, cx.str, cy.str, by rw [len_eq]; exact hc, w.fro (v := V.str (i ++ j)) R (.str _)⟩
  · cases q
theorem b_addL : BinOk X (binaryOp .Add) addL := by
  refine ⟨_, op_cat, fun Γ σ H s Q x y dx dy res W ca R cx cy q w => ?_⟩
  cases dx <;> cases dy <;> simp only [addL] at q <;> try cases q
  rename_i i j
  split at q
  · rename_i hc
    cases q
    obtain ⟨p, vs, rfl, h1, h2⟩ := cx.lst
    obtain ⟨p', vs', rfl, h1', h2'⟩ := cy.lst
    exact ⟨p, p', vs, vs', rfl, rfl, h1, h1', by rw [len_eq, h2.length, h2'.length]; exact hc, fun z hz => w.layOwn R hz (cell_lst hz (h2.append h2'))⟩
  · cases q
theorem Cont.sqT {K : PySem.W.Frag} {F : Addr → Prop} {H : Hp} {v : V} {ds : List D} (h : Cont K F H v (.tup ds)) : ∃ a vs, v = .ref a ∧ SqT K H a vs ∧ RepL K F H vs ds := by
  obtain ⟨a, vs, e, h1, h2⟩ := h.tup
  exact ⟨a, vs, e, .inl (.inl h1), h2⟩
theorem Cont.repT {K : PySem.W.Frag} {F : Addr → Prop} {H : Hp} {v : V} {ds : List D} (h : Cont K F H v (.tup ds)) : Rep K F H v (.tup ds) := by
  cases h with
  | rep h => exact h
  | cell h => exact h.elim
theorem RepL.nil_iff {K : PySem.W.Frag} {F : Addr → Prop} {H : Hp} {vs : List V} {ds : List D} (h : RepL K F H vs ds) : vs = [] ↔ ds = [] := by
  cases h <;> simp
theorem b_addT : BinOk X (binaryOp .Add) addT := by
  refine ⟨_, op_catA, fun Γ σ H s Q x y dx dy res W ca R cx cy q w => ?_⟩
  cases dx <;> cases dy <;> simp only [addT] at q <;> try cases q
  rename_i i j
  split at q
  · rename_i hc
    cases q
    obtain ⟨p, vs, rfl, h1, h2⟩ := cx.sqT
    obtain ⟨p', vs', rfl, h1', h2'⟩ := cy.sqT
    refine ⟨p, p', vs, vs', rfl, rfl, h1, h1', by rw [len_eq, h2.length, h2'.length]; exact hc, fun e => ?_, fun _ e => ?_, fun _ _ z hz => w.lay R hz (rep_tup hz (h2.append h2'))⟩
    · have e' := h2.nil_iff.mp e
      subst e'
      exact w.fro R cy.repT
    · have e' := h2'.nil_iff.mp e
      subst e'
      exact w.fro R (by rw [List.append_nil]; exact cx.repT)
  · cases q
theorem add_eq (x y : D) : binD .add x y = (addI x y).or ((addS x y).or ((addL x y).or (addT x y))) := by
  cases x <;> cases y <;> first
    | rfl
    | (simp only [binD, addI, addS, addL, addT]; split <;> rfl)
theorem b_add : BinOk X (binaryOp .Add) (binD .add) := by
  refine b_addI.or (g' := fun x y => (addS x y).or ((addL x y).or (addT x y))) (b_addS.or (g' := fun x y => (addL x y).or (addT x y)) (b_addL.or b_addT fun x y r h => ?_) fun x y r h => ?_) fun x y r h => ?_
  · cases e : addL x y with
    | none => rw [e] at h; exact .inr h
    | some z => rw [e] at h; exact .inl h
  · cases e : addS x y with
    | none => rw [e] at h; exact .inr h
    | some z => rw [e] at h; exact .inl h
  · rw [add_eq] at h
    cases e : addI x y with
    | none => rw [e] at h; exact .inr h
    | some z => rw [e] at h; exact .inl h
def mulI : D → D → Option Val | .int a, .int b => if (-B64 < a ∧ a < B64) ∨ (-B64 < b ∧ b < B64) then some (.int (a * b), .fro) else none | _, _ => none
def mulL : D → D → Option Val | .lst a, .int k => if -B63 ≤ k ∧ k < B63 ∧ a.length * k.toNat ≤ LEN then some (.lst (List.replicate k.toNat a).flatten, .fre) else none | _, _ => none
def mulT : D → D → Option Val | .tup a, .int k => if 0 < a.length ∧ a.length ≤ 1000 ∧ -1000 ≤ k ∧ k ≤ 1000 then some (.tup (List.replicate k.toNat a).flatten, .fro) else none | _, _ => none
theorem b_mulI : BinOk X (binaryOp .Mult) mulI := bin_int op_mul fun x y r h => by
  cases x <;> cases y <;> simp only [mulI] at h <;> try cases h
  rename_i i j
  split at h
  · rename_i hc
    cases h
    exact ⟨i, j, rfl, rfl, hc, rfl⟩
  · cases h
theorem b_mulL : BinOk X (binaryOp .Mult) mulL := by
  refine ⟨_, op_rep, fun Γ σ H s Q x y dx dy res W ca R cx cy q w => ?_⟩
  cases dx <;> cases dy <;> simp only [mulL] at q <;> try cases q
  rename_i i k
  split at q
  · rename_i hc
    cases q
    obtain ⟨p, vs, rfl, h1, h2⟩ := cx.lst
    obtain ⟨c1, c2, c3⟩ := hc
    exact ⟨p, k, vs, rfl, cy.int, h1, c1, c2, by rw [len_eq, h2.length]; exact c3, fun z hz => w.layOwn R hz (cell_lst hz (h2.rep _))⟩
  · cases q
theorem b_mulT : BinOk X (binaryOp .Mult) mulT := by
  refine ⟨_, op_repT.or op_repT1, fun Γ σ H s Q x y dx dy res W ca R cx cy q w => ?_⟩
  cases dx <;> cases dy <;> simp only [mulT] at q <;> try cases q
  rename_i i k
  split at q
  · rename_i hc
    cases q
    obtain ⟨p, vs, rfl, h1, h2⟩ := cx.sqT
    obtain ⟨c1, c2, c3, c4⟩ := hc
    have ne : vs ≠ [] := fun e => by rw [h2.nil_iff.mp e] at c1; exact absurd c1 (by decide)
    by_cases hk : 2 ≤ k
    · exact .inl ⟨p, k, vs, rfl, cy.int, h1, ne, hk, c4, by rw [h2.length]; exact c2, fun z hz => w.lay R hz (rep_tup hz (h2.rep _))⟩
    · refine .inr ⟨p, k, vs, rfl, cy.int, h1, ne, c3, by omega, fun e => ?_, fun e z hz => ?_⟩
      · subst e
        have e1 : (List.replicate (1 : Int).toNat i).flatten = i := by simp
        rw [e1] at w
        exact w.fro R cx.repT
      · have e1 : (List.replicate k.toNat i).flatten = [] := by rw [show k.toNat = 0 by omega]; rfl
        rw [e1] at w
        exact w.lay R hz (rep_tup hz .nil)
  · cases q
theorem mul_eq (x y : D) : binD .mul x y = (mulI x y).or ((mulL x y).or (mulT x y)) := by
  cases x <;> cases y <;> first
    | rfl
    | (simp only [binD, mulI, mulL, mulT]; split <;> rfl)
theorem b_mul : BinOk X (binaryOp .Mult) (binD .mul) := by
  refine b_mulI.or (g' := fun x y => (mulL x y).or (mulT x y)) (b_mulL.or b_mulT fun x y r h => ?_) fun x y r h => ?_
  · cases e : mulL x y with
    | none => rw [e] at h; exact .inr h
    | some z => rw [e] at h; exact .inl h
  · rw [mul_eq] at h
    cases e : mulI x y with
    | none => rw [e] at h; exact .inr h
    | some z => rw [e] at h; exact .inl h
def opOf : BO → Operator
  | .add => .Add | .sub => .Sub | .mul => .Mult | .fdiv => .FloorDiv | .md => .Mod | .pow => .Pow
theorem b_all (o : BO) : BinOk X (binaryOp (opOf o)) (binD o) := by
  cases o
  · exact b_add
  · exact b_sub
  · exact b_mul
  · exact b_fdiv
  · exact b_md
  · exact b_pow

/-! data compared -/
mutual
theorem Rep.dp {K : PySem.W.Frag} {F : Addr → Prop} {H : Hp} : ∀ (d : D) (v : V), Rep K F H v d → plain d = true → Dp K H v (toPy d)
  | .non, _, h, _ => by cases h; exact .non
  | .bl b, _, h, _ => by cases h; exact .bl b
  | .int b, _, h, _ => by cases h; exact .int b
  | .str b, _, h, _ => by cases h; exact .str b
  | .lst ds, _, h, p => by
    cases h with
    | lst f r l => exact .lst (.inl (.inl r)) (RepL.dp ds _ l (by simpa only [plain] using p))
  | .tup ds, _, h, p => by
    cases h with
    | tup f r l => exact .tup (.inl (.inl r)) (RepL.dp ds _ l (by simpa only [plain] using p))
  | .dic _, _, _, p => by simp [plain] at p
  | .obj _, _, _, p => by simp [plain] at p
  | .exc _, _, _, p => by simp [plain] at p
  | .fn _, _, _, p => by simp [plain] at p
  | .scr ns, _, h, _ => by
    have all : ∀ ns : List Int, DpAll K H (ns.map V.int) (ns.map PyData.int) := fun ns => by
      induction ns with
      | nil => exact .nil
      | cons n ns ih => exact .cons (.int n) ih
    cases h with
    | scr f r => exact .lst (.inl r) (all ns)
    | scrK r => exact .lst (.inr r) (all ns)
theorem RepL.dp {K : PySem.W.Frag} {F : Addr → Prop} {H : Hp} : ∀ (ds : List D) (vs : List V), RepL K F H vs ds → plains ds = true → DpAll K H vs (toPys ds)
  | [], _, h, _ => by cases h; exact .nil
  | d :: ds, _, h, p => by
    have p' : plain d = true ∧ plains ds = true := by simpa [plains] using p
    cases h with
    | cons a b => exact .cons (Rep.dp d _ a p'.1) (RepL.dp ds _ b p'.2)
end
theorem Cont.dp {K : PySem.W.Frag} {F : Addr → Prop} {H : Hp} {v : V} {d : D} (h : Cont K F H v d) (p : plain d = true) : Dp K H v (toPy d) := by
  cases h with
  | rep h => exact h.dp d v p
  | cell h =>
    cases d with
    | lst ds =>
      obtain ⟨vs, h1, h2⟩ := h
      exact .lst (.inl (.inl h1)) (h2.dp ds vs (by simpa only [plain] using p))
    | dic _ => simp [plain] at p
    | _ => exact h.elim
theorem okPy_of {d : D} (h : okPy d = true) : plain d = true ∧ SeqAt.shaped (toPy d) = true := by simpa [okPy] using h
/-- a comparison's answer -/
def BoolOk (X : Cx) (f : Value → Value → Sem Value) (g : D → D → Option Bool) : Prop := BinOk X f fun x y => (g x y).map fun b => (.bl b, .fro)
theorem boolOk {f : Value → Value → Sem Value} {g : D → D → Option Bool} {r : R2} (ho : OpR X f r)
    (h : ∀ (F : Addr → Prop) H (Q : VK) x y dx dy b, Cont X.K F H x dx → Cont X.K F H y dy → g dx dy = some b → Q (.bl b) H → r x y H Q) : BoolOk X f g := by
  refine ⟨r, ho, fun Γ σ H s Q x y dx dy res W ca R cx cy q w => ?_⟩
  have q : (g dx dy).map (fun b => ((D.bl b, Kd.fro) : Val)) = some res := q
  cases e : g dx dy with
  | none => rw [e] at q; cases q
  | some b =>
    rw [e] at q
    cases q
    exact h Γ.F H Q x y dx dy b cx cy e (w.fro R (.bl b))
theorem c_eq (hu : X.A.units + 64 < cLine) : BoolOk X (compareOp .Eq) eqD := boolOk (op_eqD hu) fun F H Q x y dx dy b cx cy e q => by
  unfold eqD at e
  split at e
  · rename_i hc
    obtain ⟨p1, p2⟩ : okPy dx = true ∧ okPy dy = true := by simpa using hc
    obtain ⟨p1, s1⟩ := okPy_of p1
    obtain ⟨p2, s2⟩ := okPy_of p2
    cases e
    exact ⟨_, _, cx.dp p1, cy.dp p2, s1, s2, q⟩
  · cases e
theorem c_ne (hu : X.A.units + 64 < cLine) : BoolOk X (compareOp .NotEq) (fun x y => (eqD x y).map (! ·)) := boolOk (op_neD hu) fun F H Q x y dx dy b cx cy e q => by
  unfold eqD at e
  split at e
  · rename_i hc
    obtain ⟨p1, p2⟩ : okPy dx = true ∧ okPy dy = true := by simpa using hc
    obtain ⟨p1, s1⟩ := okPy_of p1
    obtain ⟨p2, s2⟩ := okPy_of p2
    cases e
    exact ⟨_, _, cx.dp p1, cy.dp p2, s1, s2, q⟩
  · cases e
theorem cmp_int {f : Value → Value → Sem Value} {p : Int → Int → Bool} {g : D → D → Option Bool} (ho : OpR X f (rI0 fun i j => .bl (p i j))) (e : ∀ x y b, g x y = some b → ∃ i j, x = .int i ∧ y = .int j ∧ b = p i j) : BoolOk X f g :=
  boolOk ho fun F H Q x y dx dy b cx cy q w => by
    obtain ⟨i, j, rfl, rfl, rfl⟩ := e dx dy b q
    exact ⟨i, j, cx.int, cy.int, w⟩
theorem c_lt : BoolOk X (compareOp .Lt) (cmpD .lt) := cmp_int op_lt fun x y b h => by
  cases x <;> cases y <;> simp only [cmpD] at h <;> try cases h
  exact ⟨_, _, rfl, rfl, rfl⟩
theorem c_le : BoolOk X (compareOp .LtE) (cmpD .le) := cmp_int op_le fun x y b h => by
  cases x <;> cases y <;> simp only [cmpD] at h <;> try cases h
  exact ⟨_, _, rfl, rfl, rfl⟩
theorem c_gt : BoolOk X (compareOp .Gt) (cmpD .gt) := cmp_int op_gt fun x y b h => by
  cases x <;> cases y <;> simp only [cmpD] at h <;> try cases h
  exact ⟨_, _, rfl, rfl, rfl⟩
theorem c_ge : BoolOk X (compareOp .GtE) (cmpD .ge) := cmp_int op_ge fun x y b h => by
  cases x <;> cases y <;> simp only [cmpD] at h <;> try cases h
  exact ⟨_, _, rfl, rfl, rfl⟩
end
end DL

/-! DL4: the other cases of expressions. -/
namespace DL
open PySem L2

section
variable {C : Call} {ca : CA} {X : Cx} {W : WX} {a b c : DE} {e e1 e2 e3 : Expr} {pos : Pos}

theorem toPys_map : ∀ ds : List D, toPys ds = ds.map toPy
  | [] => rfl
  | d :: ds => by rw [toPys, List.map_cons, toPys_map ds]
/-! in -/
def inL : D → D → Option Bool | x, .lst ds => if okPy x && okPy (.lst ds) then some ((toPys ds).any fun z => PyData.eqv z (toPy x)) else none | _, _ => none
def inT : D → D → Option Bool | x, .tup ds => if flat x && ds.all flat then some ((toPys ds).any fun z => PyData.eqv z (toPy x)) else none | _, _ => none
def inK : D → D → Option Bool | x, .dic kds => (match keyOf x with | some k => some (kds.any fun p => decide (p.1 = k)) | none => none) | _, _ => none
theorem in_eq (x y : D) : inD x y = (inL x y).or ((inT x y).or (inK x y)) := by
  cases y <;> first
    | rfl
    | (simp only [inD, inL, inT, inK]; split <;> rfl)
theorem flat_rep {K : PySem.W.Frag} {F : Addr → Prop} {H : Hp} {v : V} {d : D} (h : Rep K F H v d) (f : flat d = true) : flatV v = true := by
  cases h <;> first | rfl | cases f
theorem eqV_eqv {K : PySem.W.Frag} {F : Addr → Prop} {H : Hp} {v w : V} {d e : D} (h : Rep K F H v d) (h' : Rep K F H w e) (f : flat d = true) (f' : flat e = true) : eqV v w = PyData.eqv (toPy d) (toPy e) := by
  cases h <;> cases h' <;> first | rfl | (cases f; done) | (cases f'; done) | skip
  all_goals simp [eqV, toPy, PyData.eqv]
theorem flats_rep {K : PySem.W.Frag} {F : Addr → Prop} {H : Hp} : ∀ {vs : List V} {ds : List D}, RepL K F H vs ds → ds.all flat = true → vs.all flatV = true
  | _, _, .nil, _ => rfl
  | _, _, .cons a h, f => by
    rw [List.all_cons, Bool.and_eq_true] at f ⊢
    exact ⟨flat_rep a f.1, flats_rep h f.2⟩
theorem inV_eq {K : PySem.W.Frag} {F : Addr → Prop} {H : Hp} {v : V} {d : D} (hv : Rep K F H v d) (f : flat d = true) : ∀ {vs : List V} {ds : List D}, RepL K F H vs ds → ds.all flat = true → inV v vs = (toPys ds).any fun z => PyData.eqv z (toPy d)
  | _, _, .nil, _ => rfl
  | _, _, .cons a h, g => by
    rw [List.all_cons, Bool.and_eq_true] at g
    unfold inV
    rw [List.any_cons, toPys, List.any_cons, eqV_eqv a hv g.1 f]
    exact congrArg _ (inV_eq hv f h g.2)
theorem Cont.flat {K : PySem.W.Frag} {F : Addr → Prop} {H : Hp} {v : V} {d : D} (h : Cont K F H v d) (f : flat d = true) : Rep K F H v d := by
  cases h with
  | rep h => exact h
  | cell h =>
    cases d with
    | lst _ => cases f
    | dic _ => cases f
    | _ => exact h.elim
theorem keyOf_kV {K : PySem.W.Frag} {F : Addr → Prop} {H : Hp} {v : V} {d : D} {k : Key} (h : Cont K F H v d) (e : keyOf d = some k) : v = kV k := by
  cases d <;> simp only [keyOf] at e <;> try cases e
  · exact h.int
  · exact h.str
theorem RepK.val {K : PySem.W.Frag} {F : Addr → Prop} {H : Hp} (k : Key) : ∀ {kvs : List (Key × V)} {kds : List (Key × D)}, RepK K F H kvs kds → (∀ d, getD' kds k = some d → ∃ v, valV kvs k = some v ∧ Rep K F H v d) ∧ (getD' kds k = none → valV kvs k = none)
  | _, _, .nil => ⟨fun d h => by simp [getD'] at h, fun _ => rfl⟩
  | _, _, .cons (k := j) (v := v) (d := d0) a h => by
    obtain ⟨h1, h2⟩ := RepK.val k h
    by_cases e : j = k
    · refine ⟨fun d q => ?_, fun q => ?_⟩
      · rw [valV_pos (p := (j, v)) e]
        simp [getD', List.find?_cons, e] at q
        subst q
        exact ⟨_, rfl, a⟩
      · simp [getD', List.find?_cons, e] at q
    · refine ⟨fun d q => ?_, fun q => ?_⟩
      · rw [valV_neg (p := (j, v)) e]
        exact h1 d (by simpa [getD', List.find?_cons, e] using q)
      · rw [valV_neg (p := (j, v)) e]
        exact h2 (by simpa [getD', List.find?_cons, e] using q)
theorem getD_any (k : Key) : ∀ kds : List (Key × D), (kds.any fun p => decide (p.1 = k)) = (getD' kds k).isSome
  | [] => rfl
  | p :: r => by
    rw [List.any_cons, getD_any k r]
    by_cases e : p.1 = k <;> simp [getD', List.find?_cons, e]
def rDIn : R2 := fun y x H Q => ∃ a o, x = .ref a ∧ DGet H a y o ∧ Q (.bl o.isSome) H
def rDNotIn : R2 := fun y x H Q => ∃ a o, x = .ref a ∧ DGet H a y o ∧ Q (.bl (!o.isSome)) H
theorem op_din (hu : X.A.units + 1 < cLine) : OpR X (compareOp .In) rDIn := by
  rintro pins s σ H y x u v Q I ry rx ⟨a, o, rfl, g, q⟩
  cases rx
  exact d_in hu I g ry fun s' I' => ⟨.bl o.isSome, H, I', rfl, q⟩
theorem op_dnotin (hu : X.A.units + 1 < cLine) : OpR X (compareOp .NotIn) rDNotIn := by
  rintro pins s σ H y x u v Q I ry rx ⟨a, o, rfl, g, q⟩
  cases rx
  exact d_notIn hu I g ry fun s' I' => ⟨.bl (!o.isSome), H, I', rfl, q⟩
theorem in_lst {F : Addr → Prop} {K : PySem.W.Frag} {H : Hp} {x y : V} {dx dy : D} {r : Bool} (cx : Cont K F H x dx) (cy : Cont K F H y dy) (e : inL dx dy = some r) :
    ∃ d ds, Dp K H x d ∧ Dp K H y (.list ds) ∧ SeqAt.shaped d = true ∧ SeqAt.shaped (.list ds) = true ∧ r = ds.any fun z => PyData.eqv z d := by
  cases dy <;> simp only [inL] at e <;> try cases e
  split at e
  · rename_i hc
    obtain ⟨p1, p2⟩ : okPy dx = true ∧ okPy (.lst _) = true := by simpa using hc
    obtain ⟨p1, s1⟩ := okPy_of p1
    obtain ⟨p2, s2⟩ := okPy_of p2
    cases e
    exact ⟨_, _, cx.dp p1, cy.dp p2, s1, s2, rfl⟩
  · cases e
theorem in_tup {F : Addr → Prop} {K : PySem.W.Frag} {H : Hp} {x y : V} {dx dy : D} {r : Bool} (cx : Cont K F H x dx) (cy : Cont K F H y dy) (e : inT dx dy = some r) :
    ∃ p vs, y = .ref p ∧ SqT K H p vs ∧ flatV x = true ∧ vs.all flatV = true ∧ r = inV x vs := by
  cases dy <;> simp only [inT] at e <;> try cases e
  split at e
  · rename_i hc
    obtain ⟨p1, p2⟩ : flat dx = true ∧ _ := by simpa only [Bool.and_eq_true] using hc
    cases e
    obtain ⟨p, vs, rfl, h1, h2⟩ := cy.sqT
    exact ⟨p, vs, rfl, h1, flat_rep (cx.flat p1) p1, flats_rep h2 p2, (inV_eq (cx.flat p1) p1 h2 p2).symm⟩
  · cases e
theorem in_dic {F : Addr → Prop} {K : PySem.W.Frag} {H : Hp} {x y : V} {dx dy : D} {r : Bool} (cx : Cont K F H x dx) (cy : Cont K F H y dy) (e : inK dx dy = some r) :
    ∃ a o, y = .ref a ∧ DGet H a x o ∧ r = o.isSome := by
  cases dy <;> simp only [inK] at e <;> try cases e
  rename_i kds
  cases q : keyOf dx with
  | none => rw [q] at e; cases e
  | some k =>
    rw [q] at e
    cases e
    obtain ⟨a, kvs, rfl, h1, h2⟩ := cy.dic
    obtain ⟨g1, g2⟩ := RepK.val k h2
    refine ⟨a, valV kvs k, rfl, by rw [keyOf_kV cx q]; exact DGet.k h1, ?_⟩
    rw [getD_any]
    cases z : getD' kds k with
    | none => rw [g2 z]; rfl
    | some d => obtain ⟨v, e1, _⟩ := g1 d z; rw [e1]; rfl
theorem c_in (hu : X.A.units + 65 < cLine) : BoolOk X (compareOp .In) inD := by
  refine boolOk ((op_inD hu).or (op_in_seq.or (op_din (by omega)))) fun F H Q x y dx dy r cx cy e q => ?_
  rw [in_eq] at e
  cases e1 : inL dx dy with
  | some r' =>
    rw [e1] at e; cases e
    obtain ⟨d, ds, h1, h2, h3, h4, rfl⟩ := in_lst cx cy e1
    exact .inl ⟨d, ds, h1, h2, h3, h4, q⟩
  | none =>
    rw [e1] at e
    cases e2 : inT dx dy with
    | some r' =>
      rw [e2] at e; cases e
      obtain ⟨p, vs, rfl, h1, h2, h3, rfl⟩ := in_tup cx cy e2
      exact .inr (.inl ⟨p, vs, rfl, .inr h1, h2, h3, q⟩)
    | none =>
      rw [e2] at e
      obtain ⟨a, o, rfl, h1, rfl⟩ := in_dic cx cy e
      exact .inr (.inr ⟨a, o, rfl, h1, q⟩)
theorem c_notin (hu : X.A.units + 65 < cLine) : BoolOk X (compareOp .NotIn) (fun x y => (inD x y).map (! ·)) := by
  refine boolOk ((op_notInD hu).or (op_notIn_seq.or (op_dnotin (by omega)))) fun F H Q x y dx dy r cx cy e q => ?_
  cases z : inD dx dy with
  | none => rw [z] at e; cases e
  | some t =>
    rw [z] at e
    have er : r = !t := by cases e; rfl
    subst er
    rw [in_eq] at z
    cases e1 : inL dx dy with
    | some r' =>
      rw [e1] at z; cases z
      obtain ⟨d, ds, h1, h2, h3, h4, rfl⟩ := in_lst cx cy e1
      exact .inl ⟨d, ds, h1, h2, h3, h4, q⟩
    | none =>
      rw [e1] at z
      cases e2 : inT dx dy with
      | some r' =>
        rw [e2] at z; cases z
        obtain ⟨p, vs, rfl, h1, h2, h3, rfl⟩ := in_tup cx cy e2
        exact .inr (.inl ⟨p, vs, rfl, .inr h1, h2, h3, q⟩)
      | none =>
        rw [e2] at z
        obtain ⟨a, o, rfl, h1, rfl⟩ := in_dic cx cy z
        exact .inr (.inr ⟨a, o, rfl, h1, q⟩)
def coOf : CO → CmpOp
  | .eq => .Eq | .ne => .NotEq | .lt => .Lt | .le => .LtE | .gt => .Gt | .ge => .GtE | .isin => .In | .notin => .NotIn
theorem c_all (hu : X.A.units + 65 < cLine) (o : CO) : BoolOk X (compareOp (coOf o)) (cmpD o) := by
  cases o
  · exact c_eq (by omega)
  · exact c_ne (by omega)
  · exact c_lt
  · exact c_le
  · exact c_gt
  · exact c_ge
  · exact c_in hu
  · exact c_notin hu

/-- a bool's answer, as a value and as a test -/
theorem bool_wt {Γ : Gh} {σ : St} {H : Hp} {s : S} {Q : Bool → Hp → Prop} {o : Option Bool} (w : WT X.K W ca Γ σ H s Q (asBl (opt (o.map fun b => ((D.bl b, Kd.fro) : Val)) s))) : WE X.K W ca Γ σ H s (fun v H' => ∃ k, v = .bl k ∧ Q k H') (opt (o.map fun b => ((D.bl b, Kd.fro) : Val)) s) := by
  cases o with
  | none => exact w
  | some b =>
    exact fun Γ' H' st R v rv fr => ⟨b, (rv.cont R).bl, w Γ' H' st R⟩
theorem c_cmp {o : CO} {op : CmpOp} (hr : BoolOk X (compareOp op) (cmpD o)) (ha : SE C ca X W a e1) (hb : SE C ca X W b e2) (hm : behindInMarks op e2 = false) :
    SE C ca X W (.cmp o a b) (.Compare e1 [op] [e2] pos) ∧ ST C ca X W (.cmp o a b) (.Compare e1 [op] [e2] pos) := by
  obtain ⟨r, ho, hi⟩ := hr
  obtain ⟨ta, pa, ia⟩ := ha.ex
  obtain ⟨tb, pb, ib⟩ := hb.ex
  have core : ∀ Γ σ H s Q, RS X.K Γ σ H s → WE X.K W ca Γ σ H s Q (evalE C (.cmp o a b) s) → tOp r ta tb σ H Q := fun Γ σ H s Q R h => by
    simp only [evalE] at h
    refine ia Γ σ H s _ R (h.bindE fun Γ1 H1 s1 v x st1 R1 rv1 fr1 h1 => ib Γ1 σ H1 s1 _ R1 (h1.bindE fun Γ2 H2 s2 w y st2 R2 rv2 fr2 h2 => ?_))
    cases q : cmpD o x.1 y.1 with
    | none => rw [q] at h2; exact h2.elim
    | some res =>
      rw [q] at h2
      exact hi Γ2 σ H2 s2 Q v w x.1 y.1 (.bl res, .fro) W ca R2 ((rv1.cont R1).step st2) (rv2.cont R2) (by show Option.map _ (cmpD o x.1 y.1) = _; rw [q]; rfl) h2
  refine ⟨⟨_, pe_cmpR ho pa pb hm, core⟩, ⟨_, pt_cmpR ho pa pb hm, fun Γ σ H s Q R h => core Γ σ H s _ R (WT.bindE (r := evalE C (.cmp o a b) s) h fun Γ1 H1 s1 v x st R1 rv fr w1 => ?_)⟩⟩
  obtain ⟨d, kd⟩ := x
  cases d with
  | bl k' => exact ⟨k', (rv.cont R1).bl, w1 _ _ .refl R1⟩
  | _ => exact w1.elim
theorem c_chain {o1 o2 : CO} {op1 op2 : CmpOp} (hr1 : BoolOk X (compareOp op1) (cmpD o1)) (hr2 : BoolOk X (compareOp op2) (cmpD o2)) (ha : SE C ca X W a e1) (hb : SE C ca X W b e2) (hc : SE C ca X W c e3) (hm : lastMarks [op1, op2] [e2, e3] = false) :
    SE C ca X W (.chain o1 o2 a b c) (.Compare e1 [op1, op2] [e2, e3] pos) ∧ ST C ca X W (.chain o1 o2 a b c) (.Compare e1 [op1, op2] [e2, e3] pos) := by
  obtain ⟨r1, ho1, hi1⟩ := hr1
  obtain ⟨r2, ho2, hi2⟩ := hr2
  obtain ⟨ta, pa, ia⟩ := ha.ex
  obtain ⟨tb, pb, ib⟩ := hb.ex
  obtain ⟨tc, pc, ic⟩ := hc.ex
  have core : ∀ Γ σ H s Q, RS X.K Γ σ H s → WE X.K W ca Γ σ H s Q (evalE C (.chain o1 o2 a b c) s) → tChain r1 r2 ta tb tc σ H Q := fun Γ σ H s Q R h => by
    simp only [evalE] at h
    refine ia Γ σ H s _ R (h.bindE fun Γ1 H1 s1 v x st1 R1 rv1 fr1 h1 => ib Γ1 σ H1 s1 _ R1 (h1.bindE fun Γ2 H2 s2 w y st2 R2 rv2 fr2 h2 => ?_))
    cases q : cmpD o1 x.1 y.1 with
    | none => rw [q] at h2; exact h2.elim
    | some t =>
      rw [q] at h2
      refine hi1 Γ2 σ H2 s2 _ v w x.1 y.1 (.bl t, .fro) W ca R2 ((rv1.cont R1).step st2) (rv2.cont R2) (by show Option.map _ (cmpD o1 x.1 y.1) = _; rw [q]; rfl) ?_
      intro Γ3 H3 st3 R3 u ru _
      refine ⟨t, (ru.cont R3).bl, ?_⟩
      have h3 : WE X.K W ca Γ3 σ H3 s2 Q (if t = true then (evalE C c s2).bind fun z s => opt ((cmpD o2 y.1 z.1).map fun b => (.bl b, .fro)) s else .ok (.bl false, .fro) s2) := WE.shift st3 h2
      cases t with
      | false => exact iteF (h3.fro R3 (.bl false))
      | true =>
        refine iteT (ic Γ3 σ H3 s2 _ R3 (WE.bindE h3 fun Γ4 H4 s4 u' z st4 R4 rv4 fr4 h4 => ?_))
        cases q2 : cmpD o2 y.1 z.1 with
        | none => rw [q2] at h4; exact h4.elim
        | some t2 =>
          rw [q2] at h4
          exact hi2 Γ4 σ H4 s4 Q w u' y.1 z.1 (.bl t2, .fro) W ca R4 (((rv2.cont R2).step st3).step st4) (rv4.cont R4) (by show Option.map _ (cmpD o2 y.1 z.1) = _; rw [q2]; rfl) h4
  refine ⟨⟨_, pe_chain ho1 ho2 pa pb pc hm, core⟩, ⟨_, pt_chain ho1 ho2 pa pb pc hm, fun Γ σ H s Q R h => core Γ σ H s _ R (WT.bindE (r := evalE C (.chain o1 o2 a b c) s) h fun Γ1 H1 s1 v x st R1 rv fr w1 => ?_)⟩⟩
  obtain ⟨d, kd⟩ := x
  cases d with
  | bl k' => exact ⟨k', (rv.cont R1).bl, w1 _ _ .refl R1⟩
  | _ => exact w1.elim
/-- an operator against a constant: the answer by the left one alone -/
theorem c_cmp1 {op : CmpOp} {r : R2} {d : DE} {g : D → Option Bool} {z : V} (ho : OpR X (compareOp op) r) (ha : SE C ca X W a e1) (hz : PE X e2 (tC z)) (hm : behindInMarks op e2 = false)
    (ev : ∀ s, evalE C d s = (evalE C a s).bind fun x s => opt ((g x.1).map fun b => (.bl b, .fro)) s)
    (h : ∀ (F : Addr → Prop) H (Q : VK) x dx b, Cont X.K F H x dx → g dx = some b → Q (.bl b) H → r x z H Q) : SE C ca X W d (.Compare e1 [op] [e2] pos) ∧ ST C ca X W d (.Compare e1 [op] [e2] pos) := by
  obtain ⟨ta, pa, ia⟩ := ha.ex
  have core : ∀ Γ σ H s Q, RS X.K Γ σ H s → WE X.K W ca Γ σ H s Q (evalE C d s) → tOp r ta (tC z) σ H Q := fun Γ σ H s Q R hw => by
    rw [ev] at hw
    refine ia Γ σ H s _ R (hw.bindE fun Γ1 H1 s1 v x st1 R1 rv1 fr1 h1 => ?_)
    cases q : g x.1 with
    | none => rw [q] at h1; exact h1.elim
    | some res =>
      rw [q] at h1
      exact h Γ1.F H1 Q v x.1 res (rv1.cont R1) q (h1.fro R1 (.bl res))
  refine ⟨⟨_, pe_cmpR ho pa hz hm, core⟩, ⟨_, pt_cmpR ho pa hz hm, fun Γ σ H s Q R h => core Γ σ H s _ R (WT.bindE (r := evalE C d s) h fun Γ1 H1 s1 v x st R1 rv fr w1 => ?_)⟩⟩
  obtain ⟨d, kd⟩ := x
  cases d with
  | bl k' => exact ⟨k', (rv.cont R1).bl, w1 _ _ .refl R1⟩
  | _ => exact w1.elim
def isNon : D → Bool | .non => true | _ => false
theorem cont_non {K : PySem.W.Frag} {F : Addr → Prop} {H : Hp} {v : V} {d : D} (h : Cont K F H v d) : decide (v = .non) = isNon d := by
  cases h with
  | rep h => cases h <;> simp [isNon]
  | cell h => cases d <;> first | exact h.elim | simp [isNon]
theorem c_isN {neg : Bool} {k : Nat} {p : Pos} (ha : SE C ca X W a e1) :
    SE C ca X W (.isN neg a) (.Compare e1 [if neg then .IsNot else .Is] [.Constant .none k p] pos) ∧ ST C ca X W (.isN neg a) (.Compare e1 [if neg then .IsNot else .Is] [.Constant .none k p] pos) := by
  have ev : ∀ s, evalE C (.isN neg a) s = (evalE C a s).bind fun x s => opt ((some (if neg then !isNon x.1 else isNon x.1)).map fun b => (.bl b, .fro)) s := fun s => by
    simp only [evalE]
    refine congrArg _ (funext fun x => funext fun s => ?_)
    obtain ⟨d, kd⟩ := x
    cases d <;> cases neg <;> rfl
  cases neg with
  | false => exact c_cmp1 (g := fun d => some (if false = true then !isNon d else isNon d)) op_isN ha pe_non (nomark _) ev fun F H Q x dx b cx e q => ⟨rfl, by cases e; rw [cont_non cx]; exact q⟩
  | true => exact c_cmp1 (g := fun d => some (if true = true then !isNon d else isNon d)) op_notN ha pe_non (nomark _) ev fun F H Q x dx b cx e q => ⟨rfl, by cases e; rw [cont_non cx]; exact q⟩
theorem c_isB {neg t : Bool} {k : Nat} {p : Pos} (ha : SE C ca X W a e1) :
    SE C ca X W (.isB neg a t) (.Compare e1 [if neg then .IsNot else .Is] [.Constant (.bool t) k p] pos) ∧ ST C ca X W (.isB neg a t) (.Compare e1 [if neg then .IsNot else .Is] [.Constant (.bool t) k p] pos) := by
  have ev : ∀ s, evalE C (.isB neg a t) s = (evalE C a s).bind fun x s => opt (((blOf x.1).map fun z => if neg then !decide (z = t) else decide (z = t)).map fun b => (.bl b, .fro)) s := fun s => by
    simp only [evalE, asBl]
    cases evalE C a s with
    | ok x s' =>
      obtain ⟨d, kd⟩ := x
      cases d <;> cases neg <;> rfl
    | exc k s' => rfl
    | stuck => rfl
  have go : ∀ {F : Addr → Prop} {H : Hp} {x : V} {dx : D} {g : Bool → Bool} {b : Bool}, Cont X.K F H x dx → (blOf dx).map g = some b → ∃ z, x = .bl z ∧ g z = b := fun cx e => by
    rename_i dx g b
    cases dx <;> simp only [blOf, Option.map] at e <;> try cases e
    exact ⟨_, cx.bl, rfl⟩
  cases neg with
  | false => exact c_cmp1 (g := fun d => (blOf d).map fun z => if false = true then !decide (z = t) else decide (z = t)) op_isBl ha pe_bl (nomark _) ev (fun F H Q x dx b cx e q => by
      obtain ⟨z, rfl, rfl⟩ := go cx e
      exact ⟨z, t, rfl, rfl, q⟩)
  | true => exact c_cmp1 (g := fun d => (blOf d).map fun z => if true = true then !decide (z = t) else decide (z = t)) op_notBl ha pe_bl (nomark _) ev (fun F H Q x dx b cx e q => by
      obtain ⟨z, rfl, rfl⟩ := go cx e
      exact ⟨z, t, rfl, rfl, q⟩)

/-! not, and, or, if -/
/-- from a value to its truth -/
theorem SE.asT (h : SE C ca X W a e) : ∃ t, PE X e t ∧ ∀ Γ σ H s (Q : Bool → Hp → Prop), RS X.K Γ σ H s → WT X.K W ca Γ σ H s Q (asBl (evalE C a s)) → t σ H fun x H' => ∃ k, x = .bl k ∧ Q k H' := by
  obtain ⟨t, p, i⟩ := h.ex
  refine ⟨t, p, fun Γ σ H s Q R w => i Γ σ H s _ R (WT.bindE w fun Γ1 H1 s1 v x st R1 rv fr w1 => ?_)⟩
  obtain ⟨d, kd⟩ := x
  cases d with
  | bl k' => exact ⟨k', (rv.cont R1).bl, w1 _ _ .refl R1⟩
  | _ => exact w1.elim
theorem WE.okBl {Γ : Gh} {σ : St} {H : Hp} {s : S} {Q : VK} {b : Bool} (R : RS X.K Γ σ H s) (h : WE X.K W ca Γ σ H s Q (.ok (.bl b, .fro) s)) : Q (.bl b) H := h.fro R (.bl b)
theorem c_not (ha : SE C ca X W a e) (ht : ST C ca X W a e) : SE C ca X W (.not a) (.UnaryOp .Not e pos) ∧ ST C ca X W (.not a) (.UnaryOp .Not e pos) := by
  obtain ⟨t, p, i⟩ := ha.asT
  obtain ⟨t', p', i'⟩ := ht.ex
  refine ⟨⟨_, pe_not p, fun Γ σ H s Q R h => ?_⟩, ⟨_, pt_not p', fun Γ σ H s Q R h => ?_⟩⟩
  · simp only [evalE] at h
    exact i Γ σ H s (fun k H1 => Q (.bl (!k)) H1) R (WE.bindT h fun Γ1 H1 s1 b st R1 w => w.okBl R1)
  · simp only [evalE] at h
    refine i' Γ σ H s (fun c H1 => Q (!c) H1) R ?_
    have e : asBl ((asBl (evalE C a s)).bind fun b s => .ok (((.bl (!b), .fro) : Val)) s) = (asBl (evalE C a s)).bind fun b s => .ok (!b) s := by
      cases asBl (evalE C a s) <;> rfl
    rw [e] at h
    exact WT.bindT h fun Γ1 H1 s1 b st R1 w => w _ _ .refl R1
theorem c_ife (hc : ST C ca X W c e1) (ha : SE C ca X W a e2) (hb : SE C ca X W b e3) : SE C ca X W (.ife c a b) (.IfExp e1 e2 e3 pos) := by
  obtain ⟨tc, pc, ic⟩ := hc.ex
  obtain ⟨ta, pa, ia⟩ := ha.ex
  obtain ⟨tb, pb, ib⟩ := hb.ex
  refine ⟨_, pe_ifExp pc pa pb, fun Γ σ H s Q R h => ?_⟩
  simp only [evalE] at h
  refine ic Γ σ H s _ R (WE.bindT h fun Γ1 H1 s1 t st R1 w => ?_)
  cases t with
  | true => exact iteT (ia Γ1 σ H1 s1 Q R1 w)
  | false => exact iteF (ib Γ1 σ H1 s1 Q R1 w)
/-- and, or: value and test of the chain of the parts -/
structure SB (C : Call) (ca : CA) (X : Cx) (W : WX) (ev : DEs → S → R Val) (op : BoolOp) (ds : DEs) (es : List Expr) : Prop where
  v : ∀ pos, ∃ t, PE X (.BoolOp op es pos) t ∧ ∀ Γ σ H s Q, RS X.K Γ σ H s → WE X.K W ca Γ σ H s Q (ev ds s) → t σ H Q
  t : ∀ pos, ∃ t, PW X (.BoolOp op es pos) t ∧ ∀ Γ σ H s Q, RS X.K Γ σ H s → WT X.K W ca Γ σ H s Q (asBl (ev ds s)) → t σ H Q
theorem sb_and1 (ha : SE C ca X W a e) (ht : ST C ca X W a e) : SB C ca X W (evalAnd C) .And (.cons a .nil) [e] := by
  obtain ⟨t, p, i⟩ := ha.ex
  obtain ⟨t', p', i'⟩ := ht.ex
  exact ⟨fun pos => ⟨t, pe_one p, fun Γ σ H s Q R h => i Γ σ H s Q R (by simpa only [evalAnd] using h)⟩, fun pos => ⟨t', pw_and1 p', fun Γ σ H s Q R h => i' Γ σ H s Q R (by simpa only [evalAnd] using h)⟩⟩
theorem sb_or1 (ha : SE C ca X W a e) (ht : ST C ca X W a e) : SB C ca X W (evalOr C) .Or (.cons a .nil) [e] := by
  obtain ⟨t, p, i⟩ := ha.ex
  obtain ⟨t', p', i'⟩ := ht.ex
  exact ⟨fun pos => ⟨t, pe_one p, fun Γ σ H s Q R h => i Γ σ H s Q R (by simpa only [evalOr] using h)⟩, fun pos => ⟨t', pw_or1 p', fun Γ σ H s Q R h => i' Γ σ H s Q R (by simpa only [evalOr] using h)⟩⟩
theorem asBl_bind (r : R Bool) (f : Bool → S → R Val) : asBl (r.bind f) = r.bind fun b s => asBl (f b s) := by cases r <;> rfl
theorem sb_and {ds : DEs} {es : List Expr} (ha : SE C ca X W a e) (ht : ST C ca X W a e) (hr : SB C ca X W (evalAnd C) .And (.cons b ds) (e2 :: es)) : SB C ca X W (evalAnd C) .And (.cons a (.cons b ds)) (e :: e2 :: es) := by
  obtain ⟨t, p, i⟩ := ha.asT
  obtain ⟨t', p', i'⟩ := ht.ex
  refine ⟨fun pos => ?_, fun pos => ?_⟩
  · obtain ⟨u, q, j⟩ := hr.v pos
    refine ⟨_, pe_and p q, fun Γ σ H s Q R h => ?_⟩
    simp only [evalAnd] at h
    refine i Γ σ H s (fun c H1 => if c = true then u σ H1 Q else Q (.bl false) H1) R (WE.bindT h fun Γ1 H1 s1 t st R1 w => ?_)
    cases t with
    | true => exact iteT (j Γ1 σ H1 s1 Q R1 w)
    | false => exact iteF (WE.okBl R1 w)
  · obtain ⟨u, q, j⟩ := hr.t pos
    refine ⟨_, pw_and p' q, fun Γ σ H s Q R h => ?_⟩
    simp only [evalAnd, asBl_bind] at h
    refine i' Γ σ H s _ R (WT.bindT h fun Γ1 H1 s1 t st R1 w => ?_)
    cases t with
    | true => exact iteT (j Γ1 σ H1 s1 Q R1 w)
    | false => exact iteF (w _ _ .refl R1)
theorem sb_or {ds : DEs} {es : List Expr} (ha : SE C ca X W a e) (ht : ST C ca X W a e) (hr : SB C ca X W (evalOr C) .Or (.cons b ds) (e2 :: es)) : SB C ca X W (evalOr C) .Or (.cons a (.cons b ds)) (e :: e2 :: es) := by
  obtain ⟨t, p, i⟩ := ha.asT
  obtain ⟨t', p', i'⟩ := ht.ex
  refine ⟨fun pos => ?_, fun pos => ?_⟩
  · obtain ⟨u, q, j⟩ := hr.v pos
    refine ⟨_, pe_or p q, fun Γ σ H s Q R h => ?_⟩
    simp only [evalOr] at h
    refine i Γ σ H s (fun c H1 => if c = true then Q (.bl true) H1 else u σ H1 Q) R (WE.bindT h fun Γ1 H1 s1 t st R1 w => ?_)
    cases t with
    | false => exact iteF (j Γ1 σ H1 s1 Q R1 w)
    | true => exact iteT (WE.okBl R1 w)
  · obtain ⟨u, q, j⟩ := hr.t pos
    refine ⟨_, pw_or p' q, fun Γ σ H s Q R h => ?_⟩
    simp only [evalOr, asBl_bind] at h
    refine i' Γ σ H s _ R (WT.bindT h fun Γ1 H1 s1 t st R1 w => ?_)
    cases t with
    | false => exact iteF (j Γ1 σ H1 s1 Q R1 w)
    | true => exact iteT (w _ _ .refl R1)
theorem c_neg (ha : SE C ca X W a e) : SE C ca X W (.neg a) (.UnaryOp .USub e pos) := by
  obtain ⟨t, p, i⟩ := ha.ex
  refine ⟨_, pe_un un_neg p, fun Γ σ H s Q R h => ?_⟩
  simp only [evalE] at h
  refine i Γ σ H s _ R (h.bindE fun Γ1 H1 s1 v x st1 R1 rv1 fr1 h1 => ?_)
  obtain ⟨d, kd⟩ := x
  cases d with
  | int n => exact ⟨n, (rv1.cont R1).int, WE.fro (v := V.int (-n)) R1 h1 (.int _)⟩
  | _ => exact h1.elim

/-! lists of expressions -/
theorem sz_nil : SZ C ca X W .nil [] := ⟨_, pa_nil, fun Γ σ H s Q R h => by simp only [evalFz] at h; exact h Γ H .refl R [] .nil⟩
theorem sz_cons {ds : DEs} {es : List Expr} (ha : SE C ca X W a e) (hr : SZ C ca X W ds es) (hs : starEach (e :: es) X.env = (false, eval e X.env) :: starEach es X.env) : SZ C ca X W (.cons a ds) (e :: es) := by
  obtain ⟨t, p, i⟩ := ha.ex
  obtain ⟨u, q, j⟩ := hr.ex
  refine ⟨_, pa_cons p q hs, fun Γ σ H s Q R h => ?_⟩
  simp only [evalFz] at h
  refine i Γ σ H s _ R (WR.bind h fun Γ1 H1 s1 x st1 R1 w v rv fr => ?_)
  obtain ⟨Γ2, st2, R2, rp⟩ := R1.freeze st1 rv fr
  refine j Γ2 σ H1 (s1.fz x.2) _ R2 (WR.bind (WR.shift st2 w fun _ _ _ _ _ _ z => z) fun Γ3 H3 s3 ds' st3 R3 w3 vs rl => ?_)
  exact w3 _ _ st3 R3 _ (.cons (rp.step st3) rl)
theorem sa_nil : SA C ca X W .nil [] := ⟨_, pa_nil, fun Γ σ H s Q R h => by simp only [evalEs] at h; exact h Γ H .refl R [] .nil fun _ _ m => by cases m⟩
theorem mem_zip_right {α β : Type} {a : α} {b : β} : ∀ {l : List α} {m : List β}, (a, b) ∈ l.zip m → a ∈ l
  | _ :: _, _ :: _, h => by
    rcases List.mem_cons.mp h with e | h
    · cases e; exact List.mem_cons_self
    · exact List.mem_cons_of_mem _ (mem_zip_right h)
theorem RVs.get {K : PySem.W.Frag} {Γ : Gh} {σ : St} {H : Hp} {s : S} : ∀ {vs : List V} {rs : List Val}, RVs K Γ σ H s vs rs → ∀ v r, (v, r) ∈ vs.zip rs → RV K Γ σ H s v r
  | _, _, .nil, _, _, m => by cases m
  | _, _, .cons a _ h, v, r, m => by
    rcases List.mem_cons.mp m with e | m
    · cases e; exact a
    · exact h.get v r m
theorem sa_cons {ds : DEs} {es : List Expr} (ha : SE C ca X W a e) (hr : SA C ca X W ds es) (hs : starEach (e :: es) X.env = (false, eval e X.env) :: starEach es X.env) : SA C ca X W (.cons a ds) (e :: es) := by
  obtain ⟨t, p, i⟩ := ha.ex
  obtain ⟨u, q, j⟩ := hr.ex
  refine ⟨_, pa_cons p q hs, fun Γ σ H s Q R h => ?_⟩
  simp only [evalEs] at h
  refine i Γ σ H s _ R (WR.bind h fun Γ1 H1 s1 x st1 R1 w v rv fr => ?_)
  refine j Γ1 σ H1 s1 _ R1 (WR.bind (WR.shift st1 w fun _ _ _ _ _ _ z => z) fun Γ3 H3 s3 rs st3 R3 w3 vs rl frs => ?_)
  have rv3 := rv.step R1 R3 st3
  refine w3 _ _ st3 R3 _ (.cons rv3 (fun e1 y z m e2 ey => ?_) rl) fun y z m => ?_
  · -- what is new behind is newer than what was new ahead
    subst ey
    have z1 := frs y z m e2
    obtain ⟨dx, kx⟩ := x
    cases e1
    obtain ⟨⟨p', rfl, _, _, c⟩, _⟩ := rv
    exact c.trk (z1 p' rfl)
  · rcases List.mem_cons.mp m with e | m
    · cases e; exact fr
    · exact (frs y z m).back st1
theorem c_tup {ds : DEs} {es : List Expr} {k : Nat} (h : SZ C ca X W ds es) : SE C ca X W (.tup ds) (.Tuple es k pos) := by
  obtain ⟨t, p, i⟩ := h.ex
  refine ⟨_, pe_tup p, fun Γ σ H s Q R h => ?_⟩
  simp only [evalE] at h
  refine i Γ σ H s _ R (h.bindZ fun Γ1 H1 s1 vs ds' st R1 rl w => ?_)
  split at w
  · rename_i hc
    exact ⟨by rw [rl.length, len_eq]; exact Nat.le_trans hc (by decide), fun q hq => WE.lay R1 w hq (rep_tup hq rl)⟩
  · exact w.elim
theorem c_lst {ds : DEs} {es : List Expr} (h : SZ C ca X W ds es) : SE C ca X W (.lst ds) (.List es pos) := by
  obtain ⟨t, p, i⟩ := h.ex
  refine ⟨_, pe_lst p, fun Γ σ H s Q R h => ?_⟩
  simp only [evalE] at h
  refine i Γ σ H s _ R (h.bindZ fun Γ1 H1 s1 vs ds' st R1 rl w => ?_)
  split at w
  · rename_i hc
    exact ⟨by rw [rl.length, len_eq]; exact Nat.le_trans hc (by decide), fun q hq => WE.layOwn R1 w hq (cell_lst hq rl)⟩
  · exact w.elim
theorem c_dic0 : SE C ca X W .dic0 (.Dict [] [] pos) := ⟨_, pe_dnewK, fun Γ σ H s Q R h q hq => by
  simp only [evalE] at h
  exact WE.layOwn R h hq ⟨[], upd_same, .nil⟩⟩
/-- x or y of lists -/
theorem cont_tru {K : PySem.W.Frag} {F : Addr → Prop} {H : Hp} {v : V} {d : D} {k : Bool} (h : Cont K F H v d) (e : truD d = some k) : TruV K v H k := by
  cases d with
  | lst xs =>
    cases e
    obtain ⟨p, vs, rfl, h1, h2⟩ := h.lst
    refine .inl ⟨vs, SqL.of h1, ?_⟩
    cases h2 <;> rfl
  | _ => cases e
theorem c_orT {pos : Pos} (ha : SE C ca X W a e1) (hb : SE C ca X W b e2) : SE C ca X W (.orT a b) (.BoolOp .Or [e1, e2] pos) := by
  obtain ⟨ta, pa, ia⟩ := ha.ex
  obtain ⟨tb, pb, ib⟩ := hb.ex
  refine ⟨_, pe_orT pa (pe_one pb), fun Γ σ H s Q R h => ?_⟩
  simp only [evalE] at h
  refine ia Γ σ H s _ R (WR.bind h fun Γ1 H1 s1 x st1 R1 w v rv fr => ?_)
  cases q : truD x.1 with
  | none => rw [q] at w; exact w.elim
  | some k =>
    rw [q] at w
    refine ⟨k, cont_tru (rv.cont R1) q, ?_⟩
    cases k with
    | true => exact iteT (w Γ1 H1 st1 R1 v rv fr)
    | false => exact iteF (ib Γ1 σ H1 s1 Q R1 (WE.shift st1 w))
end
end DL

/-! KX2: sorted(d), d a dict with int keys. -/
namespace L2
open PySem PySem.Spec PyProof.Rows
section
variable {X : Cx}
/-- values that are those ints, place by place -/
theorem intsAre_at {ns : List Int} {us : List Value} (hl : us.length = ns.length) (h : ∀ (j : Nat) (v : Value), us[j]? = some v → ∃ (i : Int) (t : Tok), ns[j]? = some i ∧ v = Value.int i t) : IntsAre us ns := by
  induction us generalizing ns with
  | nil =>
    cases ns with
    | nil => exact .nil
    | cons _ _ => cases hl
  | cons u us ih =>
    cases ns with
    | nil => cases hl
    | cons n ns =>
      obtain ⟨i, t, e, rfl⟩ := h 0 u rfl
      cases (show some n = some i from e)
      exact .cons n t (ih (Nat.succ.inj hl) fun j v q => h (j + 1) v q)
def rSortedDI : List V → Hp → VK → Prop := fun xs H Q => ∃ (a : Addr) (kvs : List (Key × V)) (ns : List Int), xs = [.ref a] ∧ Rd H a (.dK kvs) ∧ kvs.map (·.1) = ns.map Sum.inl ∧
  ∀ (ms : List Int) (p : Addr), ms.Perm ns → ms.Pairwise (· ≤ ·) → H p = none → Q (.ref p) (upd H p (.lst (ms.map V.int)))
theorem cr_sortedDI (hcalm : X.calm = true) : CallR X (.builtin "sorted") rSortedDI := by
  rintro pins s σ H xs us Q I r ⟨a, kvs, ns, rfl, hd, hks, q⟩
  obtain ⟨u, rfl, rx⟩ := vals1 r
  cases rx
  obtain ⟨z, lo, vs, rel, dd⟩ := dk_rd I.hok hd
  obtain ⟨ep, hat⟩ := dd.dictAt
  have hkeys := rel.keys.symm.trans hks
  have hl : vs.length = ns.length := by simpa using congrArg List.length hkeys
  have hz : vs.length ≤ sizeLine := by rw [← rel.length]; exact z
  refine Calls.call_function_entry kind_sorted plain_sorted entry_sorted (args_sorted1 _) ?_
  unfold Builtin.«sorted»
  refine wpAny_bind (m := checkCount "sorted" 1 1 _) (wpAny_pure (wpAny_bind ?_))
  refine PySem.W.kdu_collect (A := X.A.in1) (PySem.W.kdl_dict (knd := mixKind X.prog X.w) (kvs := vs) (ep := ep) lo) (I.ok.hd hcalm) hat hz fun h' tk acc hk hacc => ?_
  obtain ⟨l, rfl⟩ : ∃ l : List Value, acc = l.toArray := ⟨acc.toList, by simp⟩
  have ll : l.length = ns.length := by simpa [hl] using hacc.1
  have hi : IntsAre l ns := intsAre_at ll fun j v e => by
    obtain ⟨k, x, e1, e2⟩ := hacc.2 j v (by simpa using e)
    have e3 : (ns.map Sum.inl)[j]? = some k := by rw [← hkeys, List.getElem?_map, e1]; rfl
    rw [List.getElem?_map] at e3
    obtain ⟨i, hi, rfl⟩ := Option.map_eq_some_iff.mp e3
    have e2 : keyIs (Sum.inl i) v = true := e2
    rcases keyIs_shape e2 with ⟨i', t, ek, ev⟩ | ⟨_, _, ek, _⟩
    · cases ek; exact ⟨i, t, hi, ev⟩
    · cases ek
  have hzl : l.length ≤ sizeLine := by rw [ll, ← hl]; exact hz
  have I1 : Inv X pins σ H { s with heap := h', toks := tk } := I.kept hk
  refine wpAny_bind (wpAny_newList ?_ hzl)
  have at0 : (h'.push (seqObj "list" l.toArray 0)).get? h'.objs.size = some (seqObj "list" l.toArray 0) := Heap.get?_push_size _ rfl
  refine wpAny_bind (wpAny_holding (wpAny_call_entry slot_list_sort ⟨_, at0, rfl⟩ entry_list_sort (SrtO.list_sort_ord SrtO.swo_int at0 hzl (fun h2 => SrtO.ints_sortable hi h2) fun out h1 h2 => ⟨_, rfl, ?_⟩) (args_list_sort _)))
  obtain ⟨k1, k2, k3⟩ := SrtO.ints_out hi h1 h2
  obtain ⟨ep', he'⟩ := PyProof.Rows.sortedHeap_at (vs := l) (out := out.toArray) at0
  refine wpAny_pure ⟨_, rfl, .ref h'.objs.size, upd H h'.objs.size (.lst ((out.map SrtO.iv).map V.int)), I1.laid (t' := tk) (fun b u e => ?_) (Nat.le_refl _) ⟨?_, out, ep', vals_of_ints k1, he'⟩, rfl, q _ _ k2 k3 (I1.hok.fresh (Nat.le_refl _))⟩
  · have hb := Heap.lt_size e
    exact (PyProof.Rows.sortedHeap_old (Nat.ne_of_lt hb) (by rw [size_push']; exact Nat.lt_succ_of_lt hb)).trans (Heap.get?_push_of_some _ e)
  · rw [List.length_map, k2.length_eq, ← ll]; exact hzl
end
end L2

/-! KX3: set(xs) of a list of ints; its length; it sorted. -/
namespace L2
open PySem PySem.Spec PyProof.Rows
abbrev bareSet (w : World) : Obj := { cls := .type "set", dict := none, data := .set #[] 0 (.fresh 0 0 (!w.params.followText "set-order")) }
section
variable {P : Program} {w : World} {A : Around} {E : Value → Shared → Prop} {s : Shared}
/-- the filling of a bare set from a list -/
theorem set_init_list {l : Addr} {items : Array Value} (ns : List Int) {Q : PySem.Fin → Shared → Prop} (hh : A.handled = none) (hS : s.heap.get? S = some (bareSet w)) (hl : s.heap.IsList l items) (hne : S ≠ l) (hit : IntsAre items.toList ns) (hsz : items.size = ns.length) (hb : ns.length + 1 < scanBound)
    (h : ∀ (h' : Heap) (tk c : Nat), SetR w h' S (fun j => decide (j ∈ ns)) c → c ≤ ns.length → (∀ b o, b ≠ S → s.heap.get? b = some o → h'.get? b = some o) → Q (.done (.ret .none)) { s with heap := h', toks := tk }) :
    wpAny (model P w) A (Builtin.«set.__init__» ⟨[.ref S, .ref l], []⟩) Q E s := by
  obtain ⟨⟨ocls, odict, odata, oslots⟩, hol, hcl, nl, hdl⟩ := id hl
  simp only at hcl hdl
  subst hcl; subst hdl
  have k1 := F.sub_list_set
  have k2 := F.sub_list_frozenset
  have k3 : (Value.type "list" == Value.type "dict") = false := by decide
  unfold Builtin.«set.__init__» noKeywords Builtin.Frozenset.updateFrom
  generalize hPI : pyIter = PI
  wp_walk
  subst hPI
  refine wpAny_pyIter_list hl (wpAny_bind (wpAny_runValue ?_))
  have lS := Heap.lt_size hS
  have lL := Heap.lt_size hol
  have hval : ∀ (i : Nat) (v : Value), items[i]? = some v → ∃ k t, ns[i]? = some k ∧ v = .int k t := fun i v hv => by
    have hi : i < ns.length := by rw [← hsz]; exact (Array.getElem?_eq_some_iff.mp hv).1
    obtain ⟨t, e⟩ := IntsAre.int_at hit i v (by rw [Array.getElem?_toList]; exact hv)
    exact ⟨ns[i], t, List.getElem?_eq_getElem hi, by simpa [List.getD_eq_getElem?_getD, List.getElem?_eq_getElem hi] using e⟩
  have lSL : S ∉ [s.heap.objs.size, l] := by
    simp only [List.mem_cons, List.not_mem_nil, or_false, not_or]
    exact ⟨Nat.ne_of_lt lS, hne⟩
  refine set_update_ints ((Walks.list (by simp [hh]) _ l (Nat.ne_of_lt lL) items).toS) S lSL ns hsz hb hval items.size 0 _ (by omega) (Nat.zero_le _) ⟨⟨_, Heap.get?_push_size _ rfl, rfl, rfl⟩, hl.push _⟩ ⟨0, Nat.le_refl 0, setR_new_at (Heap.get?_push_of_some _ hS)⟩ fun s' c hm hc hR => ?_
  obtain ⟨h', g2, d', tk', os'⟩ := s'
  have eg : g2 = s.gens := hm.gens
  have ed : d' = s.drawn := hm.drawn
  have eo : os' = s.os := hm.os
  subst eg ed eo
  refine wpAny_pure (wpAny_pure (h h' tk' c hR (by omega) fun b o nb e => hm.heap b o ?_ (Heap.get?_push_of_some _ e)))
  simp only [List.mem_cons, List.not_mem_nil, or_false, not_or]
  exact ⟨nb, Nat.ne_of_lt (Heap.lt_size e)⟩
theorem call_set_lstI {l : Addr} {items : Array Value} (ns : List Int) {Q : Value → Shared → Prop} (hh : A.handled = none) (hl : s.heap.IsList l items) (hit : IntsAre items.toList ns) (hsz : items.size = ns.length) (hb : ns.length + 1 < scanBound)
    (h : ∀ (h' : Heap) (tk c : Nat), SetR w h' s.heap.objs.size (fun j => decide (j ∈ ns)) c → c ≤ ns.length → (∀ b o, s.heap.get? b = some o → h'.get? b = some o) → Q (.ref s.heap.objs.size) { s with heap := h', toks := tk }) :
    wpAny (model P w) A (call (.type "set") [.ref l]) Q E s := by
  obtain ⟨c, tl, hmro⟩ := F.called_set.mro
  have hmade := F.called_set.made
  have hsub := F.called_set.sub
  refine wpAny_call (codeAny_of_tree ?_)
  show wpAny _ _ (callAny (.type "set") _) _ _ _
  refine wpAny_pure ⟨Code.quiet_builtin _ (by decide +kernel), codeAny_builtin F.entry_type_call ?_⟩
  rw [Around.under_plain (weight_type_call_type "set" [.ref l] []) rfl]
  have h1 := F.called_set.notType
  have h2 := F.called_set.canCreate
  have hct := F.typeCall_set_1 (.ref l)
  repeat (any_goals (first | assumption | wp_step))
  obtain ⟨s1, es1⟩ : ∃ s1 : Shared, s1 = { s with heap := s.heap.push (bareSet w) } := ⟨_, rfl⟩
  refine codeAny_mono (code_set_led1 (.ref l) (E := E) (Q₁ := fun obj s₁ => obj = .ref s.heap.objs.size ∧ s₁ = s1) ⟨rfl, es1.symm⟩) fun r s₁ hr => ?_
  cases r with
  | error e => exact hr
  | ok fl =>
    cases fl with
    | ret obj =>
      obtain ⟨rfl, rfl⟩ := hr
      have hS : s₁.heap.get? s.heap.objs.size = some (bareSet w) := by rw [es1]; exact Heap.get?_push_size _ rfl
      have hT : Shared.TypeIs s₁ (.ref s.heap.objs.size) "set" := ⟨_, hS, rfl⟩
      have hli := F.called_set.init.lookup
      have hbi := F.called_set.init.bind (.ref s.heap.objs.size)
      repeat (any_goals (first | assumption | wp_step))
      have hlt : l < s.heap.objs.size := by
        obtain ⟨ol, hol, _⟩ := id hl
        exact Heap.lt_size hol
      have hl1 : s₁.heap.IsList l items := by rw [es1]; exact hl.push _
      refine codeAny_mono (codeAny_call_builtin (R := wants (fun r s₂ => r = .none ∧ ∃ h' tk c, s₂ = { s with heap := h', toks := tk } ∧ SetR w h' s.heap.objs.size (fun j => decide (j ∈ ns)) c ∧ c ≤ ns.length ∧ (∀ b o, s.heap.get? b = some o → h'.get? b = some o)) E) F.called_set.init.plain F.entry_set_init (check_set_init_1 hT ?_)) fun r₂ s₂ hr₂ => ?_
      · refine set_init_list ns (by simp [hh]) hS hl1 (Nat.ne_of_gt hlt) hit hsz hb fun h' tk c a b d => ⟨rfl, h', tk, c, by rw [es1], a, b, fun x o e => d x o (Nat.ne_of_lt (Heap.lt_size e)) ?_⟩
        rw [es1]
        exact Heap.get?_push_of_some _ e
      · cases r₂ with
        | error e => exact hr₂
        | ok fl₂ =>
          cases fl₂ with
          | ret r =>
            obtain ⟨rfl, h', tk, c, rfl, hS', hc', hk'⟩ := hr₂
            repeat (any_goals (first | assumption | wp_step))
            exact h _ _ _ hS' hc' hk'
          | _ => exact hr₂.elim
    | _ => exact hr.elim
end
/-- each once, the last of each -/
def once : List Int → List Int
  | [] => []
  | a :: r => if a ∈ r then once r else a :: once r
theorem mem_once {k : Int} : ∀ {l : List Int}, k ∈ once l ↔ k ∈ l
  | [] => Iff.rfl
  | a :: r => by
    have ih := mem_once (k := k) (l := r)
    unfold once
    split
    · rename_i h
      rw [ih, List.mem_cons]
      exact ⟨.inr, fun q => q.elim (fun e => e ▸ h) id⟩
    · rw [List.mem_cons, List.mem_cons, ih]
theorem nodup_once : ∀ l : List Int, (once l).Nodup
  | [] => List.nodup_nil
  | a :: r => by
    unfold once
    split
    · exact nodup_once r
    · rename_i h
      exact List.nodup_cons.mpr ⟨fun q => h (mem_once.mp q), nodup_once r⟩
theorem len_once : ∀ l : List Int, (once l).length ≤ l.length
  | [] => Nat.le_refl 0
  | a :: r => by
    have := len_once r
    unfold once
    split <;> simp <;> omega
theorem perm_of_mem {l m : List Int} (h1 : l.Nodup) (h2 : m.Nodup) (h : ∀ k, k ∈ l ↔ k ∈ m) : l.Perm m := (List.perm_ext_iff_of_nodup h1 h2).mpr h
theorem setR_len {w : World} {h : Heap} {a : Addr} {ns : List Int} {c : Nat} (R : SetR w h a (fun j => decide (j ∈ ns)) c) : c = (once ns).length := by
  obtain ⟨o, es, ep, t, _, _, _, _, nd, hm, _, _, hn, _⟩ := R
  have p := perm_of_mem nd (nodup_once ns) fun k => by rw [mem_once, ← hm k, decide_eq_true_iff]
  rw [← p.length_eq, List.length_map, Array.length_toList, hn]
section
variable {X : Cx}
/-- set(xs) of a list of ints -/
def rMkSet (K : PySem.W.Frag) (w : World) : List V → Hp → VK → Prop := fun vs H Q => ∃ (l : Addr) (ns : List Int), vs = [.ref l] ∧ SqL K H l (ns.map V.int) ∧ ns.length ≤ 4000 ∧ ∀ p, H p = none → Q (.ref p) (upd H p (SetO w p (fun j => decide (j ∈ ns)) (once ns).length))
theorem cr_setL (hc : X.calm = true) : CallR X (.type "set") (rMkSet X.K X.w) := by
  rintro pins s σ H vs us Q I r ⟨l, ns, rfl, hq, hl, q⟩
  rw [Vals.ref1 r]
  obtain ⟨its, rv, pl, hz⟩ := I.list hq
  have hlen : its.toArray.size = ns.length := by rw [List.size_toArray, ← rv.length, List.length_map]
  refine call_set_lstI ns (I.ok.hd hc) pl.isList rv.ints hlen (by unfold scanBound; omega) fun h' tk c a b k => ?_
  have e := setR_len a
  subst e
  exact ⟨.ref s.heap.objs.size, _, I.laid (t' := tk) k (Nat.le_refl _) (setO_new a), rfl, q _ (I.hok.fresh (Nat.le_refl _))⟩
/-- len of a set of ints -/
def rLenSetO (w : World) : List V → Hp → VK → Prop := fun vs H Q => ∃ (a : Addr) (S : Int → Bool) (n : Nat), vs = [.ref a] ∧ H a = some (SetO w a S n) ∧ Q (.int n) H
theorem cr_lenSetO : CallR X (.builtin "len") (rLenSetO X.w) := by
  rintro pins s σ H vs us Q I r ⟨a, S, n, rfl, ha, q⟩
  rw [Vals.ref1 r]
  obtain ⟨o, es, ep, t, ho, hex, hd, _, _, _, hb, hf, hn, _⟩ := setO_get I ha
  have hb' : es.size < 2 ^ 40 := Nat.lt_trans hb (by decide)
  exact call_len_set ho hex hd hf (by omega) ⟨.int n, H, I.tok _, ⟨_, by rw [hn]⟩, q⟩
end
end L2

/-! KX4: sorted(e.items()), a dict of ints by int keys. -/
namespace L2
open PySem PySem.Spec PyProof.Rows
section
variable {X : Cx}
/-- tuples at new places, and a list of them somewhere new -/
theorem pairs_list {pins : List (Addr × Obj)} {σ : L2.St} {H : Hp} {s s2 : Shared} {kvs : List (Key × V)} {as : List Addr} {p : Addr} {out : List Addr} {outV : List Value} {n : Nat} (I : Inv X pins σ H s) (hos : s2.os = s.os) (hg : s2.gens = s.gens)
    (hk : ∀ b o, s.heap.get? b = some o → s2.heap.get? b = some o) (hl : as.length = kvs.length) (nd : as.Nodup) (hup : ∀ a ∈ as, s.heap.objs.size ≤ a) (hp : s.heap.objs.size ≤ p) (hpa : p ∉ as) (hz : out.length ≤ sizeLine)
    (hT : ∀ (j : Nat) a q, as[j]? = some a → kvs[j]? = some q → ∃ u v, RelV (kV q.1) u ∧ RelV q.2 v ∧ s2.heap.get? a = some { cls := .type "tuple", data := .seq #[u, v] })
    (hO : outV = out.map Value.ref) (hL : s2.heap.get? p = some (seqObj "list" outV.toArray n)) :
    ∃ H' : Hp, (∀ b o, H b = some o → H' b = some o) ∧ H p = none ∧ (∀ t ∈ as, H t = none) ∧ H' p = some (.lst (out.map V.ref)) ∧ Paired (fun (t : Addr) (q : Key × V) => H' t = some (.tup [kV q.1, q.2])) as kvs ∧ (∀ b, H' b ≠ none → H b ≠ none ∨ b = p ∨ b ∈ as) ∧ Inv X pins σ H' s2 := by
  have newT : ∀ t ∈ as, H t = none := fun t ht => I.hok.fresh (hup t ht)
  have newP : H p = none := I.hok.fresh hp
  have old : ∀ b o, s.heap.get? b = some o → b ∉ as ∧ b ≠ p := fun b o e => ⟨fun z => Nat.lt_irrefl _ (Nat.lt_of_lt_of_le (Heap.lt_size e) (hup b z)), fun z => Nat.lt_irrefl _ (Nat.lt_of_lt_of_le (Heap.lt_size e) (z ▸ hp))⟩
  have prs := LiI.putT_at as kvs (upd H p (.lst (out.map V.ref))) hl nd
  have off : ∀ b, b ∉ as → b ≠ p → LiI.putT (upd H p (.lst (out.map V.ref))) as kvs b = H b := fun b h1 h2 => (LiI.putT_off as kvs _ h1).trans (upd_ne h2)
  have kp : ∀ b u, H b = some u → LiI.putT (upd H p (.lst (out.map V.ref))) as kvs b = some u := fun b u e => by
    refine (off b (fun z => ?_) fun z => ?_).trans e
    · rw [newT b z] at e; cases e
    · subst z; rw [newP] at e; cases e
  have atP : LiI.putT (upd H p (.lst (out.map V.ref))) as kvs p = some (.lst (out.map V.ref)) := (LiI.putT_off as kvs _ hpa).trans upd_same
  refine ⟨_, kp, newP, newT, atP, prs, fun b hb => ?_, ?_⟩
  · by_cases h1 : b ∈ as
    · exact .inr (.inr h1)
    · by_cases h2 : b = p
      · exact .inr (.inl h2)
      · rw [off b h1 h2] at hb; exact .inl hb
  · refine I.call' (ch := []) hos ⟨fun b o q _ _ _ => hk b o q, fun b o q _ _ _ => ⟨_, hk b o q⟩, fun b o q e _ => by rw [off b (old b o q).1 (old b o q).2]; exact e, fun b o q _ => ⟨_, hk b o q⟩, fun b xs q => kp b _ q, fun b o u q => kp b _ q, fun b ps q => ⟨#[], by rw [kp b _ q]; simp⟩⟩ (fun b u q => ?_) (by rw [hg]; exact I.bare) fun b z => nomatch z
    by_cases h1 : b ∈ as
    · obtain ⟨j, pk, e1, e2, e3⟩ := LiI.paired_ix prs h1
      rw [e3] at q
      cases q
      obtain ⟨x, y, r1, r2, e4⟩ := hT j b pk e1 e2
      exact ⟨by show 2 ≤ sizeLine; decide, _, .cons r1 (.cons r2 .nil), ⟨_, e4, rfl, _, rfl⟩⟩
    · by_cases h2 : b = p
      · subst h2
        rw [atP] at q
        cases q
        refine ⟨by rw [List.length_map]; exact hz, outV, n, by rw [hO]; exact LiI.vals_refs out, hL⟩
      · rw [off b h1 h2] at q
        exact (I.hok b u q).stay (fun d v _ y => hk d v y) (fun d y => kp d _ y) fun d xs y => kp d _ y
/-- pairs of ints, in order -/
def kvI (ps : List (Int × Int)) : List (Key × V) := ps.map fun p => (Sum.inl p.1, V.int p.2)
theorem key_fn : ∀ (as : List Addr) (ps : List (Int × Int)), as.Nodup → as.length = ps.length → ∃ g : Addr → Int × Int, as.map g = ps ∧ ∀ (j : Nat) a q, as[j]? = some a → ps[j]? = some q → g a = q
  | [], [], _, _ => ⟨fun _ => (0, 0), rfl, fun j a q h => by simp at h⟩
  | a :: as, p :: ps, nd, hl => by
    obtain ⟨n1, n2⟩ := List.nodup_cons.mp nd
    obtain ⟨g, h1, h2⟩ := key_fn as ps n2 (Nat.succ.inj hl)
    have off : ∀ b ∈ as, (if b = a then p else g b) = g b := fun b hb => by
      rw [if_neg]
      intro z
      exact n1 (z ▸ hb)
    refine ⟨fun b => if b = a then p else g b, ?_, fun j b q e1 e2 => ?_⟩
    · rw [List.map_cons, if_pos rfl, List.map_congr_left off, h1]
    · cases j with
      | zero => cases e1; cases e2; exact if_pos rfl
      | succ j =>
        have e1 : as[j]? = some b := e1
        exact (off b (List.mem_of_getElem? e1)).trans (h2 j b q e1 e2)
theorem kv_at {ps : List (Int × Int)} {vs : List (Key × Value)} : KV (kvI ps) vs → ∀ {j : Nat} {q : Int × Int}, ps[j]? = some q → ∃ k y, vs[j]? = some (k, y) ∧ k = Sum.inl q.1 ∧ RelV (V.int q.2) y := fun kv j q e => by
  have e1 : (kvI ps)[j]? = some (Sum.inl q.1, V.int q.2) := by
    unfold kvI
    rw [List.getElem?_map, e]; rfl
  obtain ⟨y, e2, e3, e4⟩ := LiI.paired_get kv e1
  exact ⟨y.1, y.2, e2, e3.symm, e4⟩
def rSortIt : V → Hp → VK → Prop := fun x H Q => ∃ (d : Addr) (ps : List (Int × Int)), x = .ref d ∧ H d = some (.dK (kvI ps)) ∧
  ∀ (H' : Hp) (p : Addr) (ts : List Addr) (qs : List (Int × Int)), (∀ b o, H b = some o → H' b = some o) → H p = none → (∀ t ∈ ts, H t = none) → p ∉ ts → H' p = some (.lst (ts.map V.ref)) → (∀ t ∈ ts, H' t ≠ none) →
    qs.Perm ps → qs.Pairwise (fun a b => SrtO.lexB b a = false) → Paired (fun (t : Addr) (q : Int × Int) => H' t = some (.tup [.int q.1, .int q.2])) ts qs → Q (.ref p) H'
theorem pe_sortIt {e : Expr} {te : TE} {p apos cpos pos : Pos} (hc : X.calm = true) (he : PE X e te) (hg : Gl X "sorted") (hm : X.mg "sorted" = none) (hbase : attributeBase e "items" X.env (eval e X.env) = eval e X.env) (hline : (apos.endLine == cpos.line) = true) :
    PE X (.Call (.Name "sorted" p) [.Call (.Attribute e "items" apos) [] [] cpos] [] pos) (fun σ H Q => te σ H fun x H1 => rSortIt x H1 Q) := by
  refine ⟨fun pins s σ H Q I hq => Call_ (ld_blt I hg hm boot_sorted (callWith_builtin1 (args_cons ?_ rfl) rfl rfl))⟩
  refine wpAny_Call_method (T := "dict") (id := "dict.items") hbase rfl hline F.plainAttrs_dict F.slot_dict_items F.type_dict_items (thn (he.run pins s σ H _ I hq) fun u s1 ⟨x, H1, I1, rx, d, ps, ex, hd, q⟩ => ?_)
  subst ex
  cases rx
  obtain ⟨hz, lo, vs, kv, dd⟩ := I1.hok d _ hd
  obtain ⟨ep, hat⟩ := dd.dictAt
  have hl : ps.length = vs.length := by
    have := Paired.length kv
    unfold kvI at this
    rwa [List.length_map] at this
  have hzv : vs.length ≤ sizeLine := by
    rw [← hl]
    unfold kvI at hz
    rwa [List.length_map] at hz
  refine ⟨dd.typeIs, dd.mapOf.noDict, method_meetsIn F.slot_dict_items F.entry_dict_items rfl ?_⟩
  refine PySem.evalArgs_none ⟨rfl, dd.typeIs, F.args_dict_items_1 _, _, meets_dict_items (mixKind X.prog X.w) d lo, ⟨vs, dd⟩, args_nil ?_⟩
  refine Calls.call_function_entry kind_sorted plain_sorted entry_sorted (args_sorted1 _) ?_
  unfold Builtin.«sorted»
  refine wpAny_bind (m := checkCount "sorted" 1 1 _) (wpAny_pure (wpAny_bind ?_))
  refine PySem.W.kdx_collect (A := X.A.in1) (knd := mixKind X.prog X.w) (kvs := vs) (ep := ep) (I1.ok.hd hc) ⟨_, Heap.get?_push_size _ rfl, rfl, rfl⟩ (hat.push _) hzv fun h' tk as hk hla hG => ?_
  have hk0 : ∀ b o, s1.heap.get? b = some o → h'.get? b = some o := fun b o e => hk b o (Heap.get?_push_of_some _ e)
  have nd : as.Nodup := List.Pairwise.imp (fun {a b} (h : a < b) => Nat.ne_of_lt h) hG.rise
  have hlp : as.length = ps.length := hla.trans hl.symm
  obtain ⟨g, g1, g2⟩ := key_fn as ps nd hlp
  have prs : ∀ (j : Nat) a, as[j]? = some a → ∃ q u v, ps[j]? = some q ∧ g a = q ∧ RelV (V.int q.1) u ∧ RelV (V.int q.2) v ∧ h'.get? a = some { cls := .type "tuple", data := .seq #[u, v] } := fun j a e => by
    have hj : j < ps.length := by rw [← hlp]; exact (List.getElem?_eq_some_iff.mp e).1
    have e2 := List.getElem?_eq_getElem hj
    obtain ⟨k, y, e3, e4, e5⟩ := kv_at kv e2
    obtain ⟨key, k', x, f1, f2, f3⟩ := hG.pairs j a e
    rw [e3] at f1
    cases f1
    subst e4
    exact ⟨_, key, _, e2, g2 j a _ e e2, relV_key (show keyIs (Sum.inl _) key = true from f2), e5, f3⟩
  have all : ∀ v ∈ as.map Value.ref, ∃ a, v = .ref a ∧ ∃ j, as[j]? = some a := fun v hv => by
    obtain ⟨a, ha, rfl⟩ := List.mem_map.mp hv
    exact ⟨a, rfl, List.mem_iff_getElem?.mp ha⟩
  have ho : ∀ v ∈ as.map Value.ref, Srt.IsPair h' v ((fun | .ref a => g a | _ => (0, 0) : Value → Int × Int) v).1 ((fun | .ref a => g a | _ => (0, 0) : Value → Int × Int) v).2 := fun v hv => by
    obtain ⟨a, rfl, j, ha⟩ := all v hv
    obtain ⟨q', u, v, e1, e2, ⟨t1, r1⟩, ⟨t2, r2⟩, e3⟩ := prs j a ha
    subst r1 r2
    show Srt.IsPair h' (.ref a) (g a).1 (g a).2
    rw [e2]
    exact ⟨a, _, t1, t2, 0, rfl, e3, rfl, rfl⟩
  have lim : (as.map Value.ref).length ≤ sizeLine := by rw [List.length_map, hla]; exact hzv
  refine wpAny_bind (wpAny_newList ?_ lim)
  have at0 : (h'.push (seqObj "list" (as.map Value.ref).toArray 0)).get? h'.objs.size = some (seqObj "list" (as.map Value.ref).toArray 0) := Heap.get?_push_size _ rfl
  refine wpAny_bind (wpAny_holding (wpAny_call_entry slot_list_sort ⟨_, at0, rfl⟩ entry_list_sort (SrtO.list_sort_ord (SrtO.swo_lex _) at0 lim (fun h2 => SrtO.pairs_sortableO (by omega) (fun v hv => (ho v hv).keeps fun b o e _ => Heap.get?_push_of_some _ e) fun o e c => ?_) fun out h1 h2 => ⟨_, rfl, ?_⟩) (args_list_sort _)))
  · rw [at0] at e
    cases e
    exact absurd (Value.type.inj c) (by decide)
  have outA : ∃ ts : List Addr, out = ts.map Value.ref ∧ ts.Perm as := by
    have back : ∀ l : List Value, (∀ v ∈ l, ∃ a : Addr, v = .ref a) → ∃ ts : List Addr, l = ts.map Value.ref := fun l => by
      induction l with
      | nil => exact fun _ => ⟨[], rfl⟩
      | cons v l ih =>
        intro hh
        obtain ⟨a, rfl⟩ := hh v List.mem_cons_self
        obtain ⟨ts, rfl⟩ := ih fun w m => hh w (List.mem_cons_of_mem _ m)
        exact ⟨a :: ts, rfl⟩
    obtain ⟨ts, rfl⟩ := back out fun v hv => by
      obtain ⟨a, e, _⟩ := all v (h2.perm.mem_iff.mp hv)
      exact ⟨a, e⟩
    refine ⟨ts, rfl, ?_⟩
    have pm := h2.perm.map (fun | .ref a => a | _ => 0 : Value → Addr)
    rw [List.map_map, List.map_map] at pm
    have idm : ∀ l : List Addr, l.map ((fun | .ref a => a | _ => 0 : Value → Addr) ∘ Value.ref) = l := fun l => List.map_id l
    rw [idm, idm] at pm
    exact pm
  obtain ⟨ts, rfl, pt⟩ := outA
  obtain ⟨ep', he'⟩ := PyProof.Rows.sortedHeap_at (vs := as.map Value.ref) (out := (ts.map Value.ref).toArray) at0
  have old : ∀ b o, h'.get? b = some o → (sortedHeap (h'.push (seqObj "list" (as.map Value.ref).toArray 0)) h'.objs.size (as.map Value.ref) (ts.map Value.ref).toArray).get? b = some o := fun b o e =>
    (PyProof.Rows.sortedHeap_old (Nat.ne_of_lt (Heap.lt_size e)) (by rw [size_push']; exact Nat.lt_succ_of_lt (Heap.lt_size e))).trans (Heap.get?_push_of_some _ e)
  have up : ∀ a ∈ as, s1.heap.objs.size ≤ a := fun a ha => by
    have q0 : (s1.heap.push { cls := .type "dict_items", data := .fields #[.ref d] }).objs.size < a := hG.above a ha
    rw [size_push'] at q0
    omega
  have hS : s1.heap.objs.size ≤ h'.objs.size := by
    have : h'.get? s1.heap.objs.size = some _ := hk _ _ (Heap.get?_push_size _ rfl)
    exact Nat.le_of_lt (Heap.lt_size this)
  have hT : ∀ (j : Nat) a (q' : Key × V), as[j]? = some a → (kvI ps)[j]? = some q' → ∃ u v, RelV (kV q'.1) u ∧ RelV q'.2 v ∧ (sortedHeap (h'.push (seqObj "list" (as.map Value.ref).toArray 0)) h'.objs.size (as.map Value.ref) (ts.map Value.ref).toArray).get? a = some { cls := .type "tuple", data := .seq #[u, v] } := fun j a q' e1 e2 => by
    obtain ⟨q0, u, v, f1, f2, f3, f4, f5⟩ := prs j a e1
    unfold kvI at e2
    rw [List.getElem?_map, f1] at e2
    cases e2
    exact ⟨u, v, f3, f4, old _ _ f5⟩
  obtain ⟨H', k1, k2, k3, k4, k5, k6, J⟩ := pairs_list (s2 := { s1 with heap := sortedHeap (h'.push (seqObj "list" (as.map Value.ref).toArray 0)) h'.objs.size (as.map Value.ref) (ts.map Value.ref).toArray, toks := tk }) (kvs := kvI ps) (as := as) (p := h'.objs.size) (out := ts) (outV := ts.map Value.ref) (n := ep') I1 rfl rfl (fun b o e => old b o (hk0 b o e)) (by unfold kvI; rw [List.length_map]; exact hlp) nd up hS (fun z => Nat.lt_irrefl _ (hG.there z)) (by rw [pt.length_eq, hla]; exact hzv) hT rfl he'
  have mem : ∀ t ∈ ts, t ∈ as := fun t ht => pt.mem_iff.mp ht
  have tup : ∀ t ∈ ts, H' t = some (.tup [.int (g t).1, .int (g t).2]) := fun t ht => by
    obtain ⟨j, y, e1, e2, e3⟩ := LiI.paired_ix k5 (mem t ht)
    obtain ⟨q0, u, v, f1, f2, _⟩ := prs j t e1
    unfold kvI at e2
    rw [List.getElem?_map, f1] at e2
    cases e2
    rw [f2]
    exact e3
  have pr : ∀ l : List Addr, (∀ t ∈ l, H' t = some (.tup [.int (g t).1, .int (g t).2])) → Paired (fun (t : Addr) (q : Int × Int) => H' t = some (.tup [.int q.1, .int q.2])) l (l.map g) := fun l => by
    induction l with
    | nil => exact fun _ => .nil
    | cons t l ih => exact fun hh => .cons (hh t List.mem_cons_self) (ih fun w m => hh w (List.mem_cons_of_mem _ m))
  refine wpAny_pure ⟨_, rfl, .ref h'.objs.size, H', J, rfl, q H' _ ts (ts.map g) k1 k2 (fun t ht => k3 t (mem t ht)) (fun z => Nat.lt_irrefl _ (hG.there (mem _ z))) k4 (fun t ht => by rw [tup t ht]; simp) (g1 ▸ pt.map g) ?_ (pr ts tup)⟩
  have h1 := List.pairwise_map.mp h1
  rw [List.pairwise_map]
  exact h1
end
end L2

/-! DL5: subscripts, slices, built-ins, methods. -/
namespace DL
open PySem L2

section
variable {C : Call} {ca : CA} {X : Cx} {W : WX} {a b c : DE} {e e1 e2 e3 : Expr} {pos : Pos}
theorem atI_rep {K : PySem.W.Frag} {F : Addr → Prop} {H : Hp} {vs : List V} {ds : List D} (h : RepL K F H vs ds) {i : Int} {d : D} (e : atI ds i = some d) : ∃ v, atI vs i = some v ∧ Rep K F H v d := by
  unfold atI at e ⊢
  rw [h.length]
  cases q : ixN ds.length i with
  | none => rw [q] at e; cases e
  | some j =>
    rw [q] at e
    exact h.get (i := j) e
theorem atI_map {α β : Type} (f : α → β) (xs : List α) (i : Int) : atI (xs.map f) i = (atI xs i).map f := by
  unfold atI
  rw [List.length_map]
  cases ixN xs.length i with
  | none => rfl
  | some j => exact List.getElem?_map
def rIxD : R2 := fun x y H Q => ∃ a v, x = .ref a ∧ DGet H a y (some v) ∧ Q v H
theorem ix_dict (hu : X.A.units + 1 < cLine) : IxR X rIxD := by
  rintro value slice pins s σ H x y v u Q I rx ry ⟨a, z, rfl, g, q⟩ hs
  cases rx
  exact PyProof.Rows.tail_any (dict_typeIs I g) PySem.F.slot_dict_getitem.lookup (d_getItem hu I g ry fun w' s' I' rw' => ⟨z, H, I', rw', q⟩) hs
theorem c_ix (hu : X.A.units + 1 < cLine) (ha : SE C ca X W a e1) (hb : SE C ca X W b e2) (hs : PlainIx e2) : SE C ca X W (.ix a b) (.Subscript e1 e2 pos) := by
  obtain ⟨ta, pa, ia⟩ := ha.ex
  obtain ⟨tb, pb, ib⟩ := hb.ex
  refine ⟨_, pe_ix (ix_list.or (ix_tup.or (ix_dict hu))) pa pb hs, fun Γ σ H s Q R h => ?_⟩
  simp only [evalE] at h
  refine ia Γ σ H s _ R (h.bindE fun Γ1 H1 s1 v x st1 R1 rv1 fr1 h1 => ib Γ1 σ H1 s1 _ R1 (h1.bindE fun Γ2 H2 s2 w y st2 R2 rv2 fr2 h2 => ?_))
  have cx := (rv1.cont R1).step st2
  have cy := rv2.cont R2
  obtain ⟨dx, kx⟩ := x
  obtain ⟨dy, ky⟩ := y
  cases q : ixD dx dy with
  | none => rw [q] at h2; exact h2.elim
  | some res =>
    rw [q] at h2
    cases dx with
    | lst ds =>
      cases dy <;> simp only [ixD] at q <;> try cases q
      obtain ⟨p, vs, rfl, g1, g2⟩ := cx.lst
      obtain ⟨v, g3, g4⟩ := atI_rep g2 q
      exact .inl ⟨p, vs, _, v, rfl, cy.int, SqL.of g1, g3, h2.fro R2 g4⟩
    | tup ds =>
      cases dy <;> simp only [ixD] at q <;> try cases q
      obtain ⟨p, vs, rfl, g1, g2⟩ := cx.sqT
      obtain ⟨v, g3, g4⟩ := atI_rep g2 q
      exact .inr (.inl ⟨p, vs, _, v, rfl, cy.int, g1, g3, h2.fro R2 g4⟩)
    | scr ns =>
      cases dy <;> simp only [ixD] at q <;> try cases q
      obtain ⟨p, rfl, g1⟩ := cx.scr
      rename_i i
      cases z : atI ns i with
      | none => rw [z] at q; cases q
      | some m =>
        rw [z] at q
        cases q
        exact .inl ⟨p, _, i, .int m, rfl, cy.int, g1, by rw [atI_map, z]; rfl, h2.fro R2 (.int m)⟩
    | dic kds =>
      cases z : keyOf dy with
      | none => simp only [ixD, z] at q; cases q
      | some k =>
        simp only [ixD, z] at q
        obtain ⟨p, kvs, rfl, g1, g2⟩ := cx.dic
        obtain ⟨v, g3, g4⟩ := (RepK.val k g2).1 _ q
        refine .inr (.inr ⟨p, v, rfl, ?_, h2.fro R2 g4⟩)
        rw [keyOf_kV cy z, ← g3]
        exact DGet.k g1
    | _ => cases dy <;> cases q

/-! slices -/
structure SO (C : Call) (ca : CA) (X : Cx) (W : WX) (d : DO) (e : Option Expr) : Prop where
  ex : ∃ t : TO, PO X e t ∧ ∀ Γ σ H s Q, RS X.K Γ σ H s → WR X.K W ca Γ σ H s (fun _ H' _ o => Q o H') (evalO C d s) → t σ H Q
theorem so_none : SO C ca X W .none none := ⟨_, po_none, fun Γ σ H s Q R h => by simp only [evalO] at h; exact h Γ H .refl R⟩
theorem so_some (ha : SE C ca X W a e) : SO C ca X W (.some a) (some e) := by
  obtain ⟨t, p, i⟩ := ha.ex
  refine ⟨_, po_some p, fun Γ σ H s Q R h => ?_⟩
  simp only [evalO] at h
  refine i Γ σ H s _ R (WR.bind h fun Γ1 H1 s1 x st1 R1 w v rv fr => ?_)
  obtain ⟨d, kd⟩ := x
  cases d with
  | int n => exact ⟨n, (rv.cont R1).int, w _ _ st1 R1⟩
  | _ => exact w.elim
theorem RepL.cut {K : PySem.W.Frag} {F : Addr → Prop} {H : Hp} {vs : List V} {ds : List D} (h : RepL K F H vs ds) (lo hi : Option Int) : RepL K F H (cutV vs lo hi) (cutD ds lo hi) := by
  unfold cutV cutD
  rw [h.length]
  exact (h.drop _).take _
theorem c_slice {lo hi : DO} {l u : Option Expr} {p2 : Pos} (ha : SE C ca X W a e1) (hl : SO C ca X W lo l) (hu : SO C ca X W hi u) : SE C ca X W (.slice a lo hi) (.Subscript e1 (.Slice l u none p2) pos) := by
  obtain ⟨ta, pa, ia⟩ := ha.ex
  obtain ⟨tl, pl, il⟩ := hl.ex
  obtain ⟨tu, pu, iu⟩ := hu.ex
  refine ⟨_, pe_slice (sl_list.or sl_tupA) pa pl pu, fun Γ σ H s Q R h => ?_⟩
  simp only [evalE] at h
  refine ia Γ σ H s _ R (h.bindE fun Γ1 H1 s1 v x st1 R1 rv1 fr1 h1 => il Γ1 σ H1 s1 _ R1 (WR.bind h1 fun Γ2 H2 s2 o1 st2 R2 h2 => iu Γ2 σ H2 s2 _ R2 (WR.bind (WE.shift st2 h2) fun Γ3 H3 s3 o2 st3 R3 h3 => ?_)))
  have cx := ((rv1.cont R1).step st2).step st3
  have h3 := WE.shift st3 h3
  obtain ⟨dx, kx⟩ := x
  cases dx with
  | lst ds =>
    obtain ⟨p, vs, rfl, g1, g2⟩ := cx.lst
    exact .inl ⟨p, vs, rfl, SqL.of g1, fun z hz => WE.layOwn R3 h3 hz (cell_lst hz (g2.cut _ _))⟩
  | tup ds =>
    obtain ⟨p, vs, rfl, g1, g2⟩ := cx.sqT
    refine .inr ⟨p, vs, rfl, g1, fun ⟨z1, z2⟩ => ?_, fun _ z hz => WE.lay R3 h3 hz (rep_tup hz (g2.cut _ _))⟩
    have e : cutD ds o1 o2 = ds := by
      unfold cutD
      rw [← g2.length, z1, z2, List.drop_zero, Nat.sub_zero, g2.length, List.take_length]
    have h3 : WE X.K W ca Γ3 σ H3 s3 Q (.ok (.tup (cutD ds o1 o2), .fro) s3) := h3
    rw [e] at h3
    exact h3.fro R3 cx.repT
  | _ => exact h3.elim
theorem c_revs {k : Nat} {p1 p2 p3 : Pos} (ha : SE C ca X W a e1) : SE C ca X W (.revs a) (.Subscript e1 (.Slice none none (some (.UnaryOp .USub (.Constant (.int 1) k p1) p2)) p3) pos) := by
  obtain ⟨ta, pa, ia⟩ := ha.ex
  refine ⟨_, pe_revL pa, fun Γ σ H s Q R h => ?_⟩
  simp only [evalE] at h
  refine ia Γ σ H s _ R (h.bindE fun Γ1 H1 s1 v x st1 R1 rv1 fr1 h1 => ?_)
  obtain ⟨dx, kx⟩ := x
  cases dx with
  | lst ds =>
    obtain ⟨p, vs, rfl, g1, g2⟩ := (rv1.cont R1).lst
    exact ⟨p, vs, rfl, SqL.of g1, fun z hz => WE.layOwn R1 h1 hz (cell_lst hz g2.reverse)⟩
  | _ => exact h1.elim

/-! isinstance -/
def tyN : TY → String
  | .int => "int" | .bool => "bool" | .str => "str" | .tuple => "tuple" | .list => "list"
def tyS : TY → Str
  | .int => "int" | .bool => "bool" | .str => "str" | .tuple => "tuple" | .list => "list"
theorem boot_ty (t : TY) : bootBuiltins (tyS t) = some (.type (tyN t)) := by cases t <;> decide +kernel
theorem boot_isi : bootBuiltins "isinstance" = some (.builtin "isinstance") := by decide +kernel
theorem pe_ty {t : TY} (hg : Gl X (tyS t)) (hm : X.mg (tyS t) = none) : PE X (.Name (tyS t) pos) (tC (.ty (tyN t))) :=
  pe_bltn (v := .ty (tyN t)) hg hm (boot_ty t) rfl (by cases t <;> decide +kernel) (by cases t <;> decide +kernel)
theorem isi_ok {K : PySem.W.Frag} {F : Addr → Prop} {H : Hp} {v : V} {d : D} {t : TY} {r : Bool} (h : Cont K F H v d) (e : isiD d t = some r) : ∃ u, TyX K H v u ∧ PySem.W.kitOne K u (.type (tyN t)) = some r := by
  cases d with
  | non => have := h.non; subst this; exact ⟨_, .base .non, by cases t <;> (cases e; exact kit_ty (by decide +kernel))⟩
  | bl b => have := h.bl; subst this; exact ⟨_, .base (.bl b), by cases t <;> (cases e; exact kit_ty (by decide +kernel))⟩
  | int i => have := h.int; subst this; exact ⟨_, .base (.int i), by cases t <;> (cases e; exact kit_ty (by decide +kernel))⟩
  | str x => have := h.str; subst this; exact ⟨_, .base (.str x), by cases t <;> (cases e; exact kit_ty (by decide +kernel))⟩
  | lst ds =>
    obtain ⟨p, vs, rfl, g1, g2⟩ := h.lst
    exact ⟨_, .base (.lst g1), by cases t <;> (cases e; exact kit_ty (by decide +kernel))⟩
  | tup ds =>
    obtain ⟨p, vs, rfl, g1, g2⟩ := h.tup
    exact ⟨_, .base (.tup g1), by cases t <;> (cases e; exact kit_ty (by decide +kernel))⟩
  | scr ns => cases t <;> cases e
  | _ => cases e
theorem c_isi {t : TY} {p p1 : Pos} (ha : SE C ca X W a e1) (hg : Gl X "isinstance") (hm : X.mg "isinstance" = none) (hg2 : Gl X (tyS t)) (hm2 : X.mg (tyS t) = none) (hs : starEach [e1, .Name (tyS t) p1] X.env = (false, eval e1 X.env) :: starEach [.Name (tyS t) p1] X.env) :
    SE C ca X W (.isi a t) (.Call (.Name "isinstance" p) [e1, .Name (tyS t) p1] [] pos) := by
  obtain ⟨ta, pa, ia⟩ := ha.ex
  refine ⟨_, pe_callB call_isi hg hm boot_isi (pa_cons pa (pa_cons (pe_ty hg2 hm2) pa_nil) hs) (by decide) (by decide) hs (by rfl), fun Γ σ H s Q R h => ?_⟩
  simp only [evalE] at h
  refine ia Γ σ H s _ R (h.bindE fun Γ1 H1 s1 v x st1 R1 rv1 fr1 h1 => ?_)
  obtain ⟨dx, kx⟩ := x
  cases q : isiD dx t with
  | none => rw [q] at h1; exact h1.elim
  | some r =>
    rw [q] at h1
    obtain ⟨u, g1, g2⟩ := isi_ok (rv1.cont R1) q
    exact ⟨v, .ty (tyN t), u, .type (tyN t), r, rfl, .ty _, g1, g2, WE.okBl R1 h1⟩

/-! built-ins -/
inductive ContL (K : PySem.W.Frag) (F : Addr → Prop) (H : Hp) : List V → List D → Prop
  | nil : ContL K F H [] []
  | cons {v : V} {vs : List V} {d : D} {ds : List D} : Cont K F H v d → ContL K F H vs ds → ContL K F H (v :: vs) (d :: ds)
theorem RVs.cont {K : PySem.W.Frag} {Γ : Gh} {σ : St} {H : Hp} {s : S} (R : RS K Γ σ H s) : ∀ {vs : List V} {rs : List Val}, RVs K Γ σ H s vs rs → ContL K Γ.F H vs (rs.map (·.1))
  | _, _, .nil => .nil
  | _, _, .cons a _ h => .cons (RV.cont R a) (h.cont R)
theorem obind' {α β : Type} {a : α} {f : α → Option β} : (some a).bind f = f a := rfl
def biV : BI → Value
  | .len => .builtin "len" | .list => .type "list" | .tuple => .type "tuple" | .sum => .builtin "sum" | .all => .builtin "all" | .max => .builtin "max" | .min => .builtin "min" | .abs => .builtin "abs" | .int => .type "int" | .str => .type "str" | .sorted => .builtin "sorted"
def biS : BI → Str
  | .len => "len" | .list => "list" | .tuple => "tuple" | .sum => "sum" | .all => "all" | .max => "max" | .min => "min" | .abs => "abs" | .int => "int" | .str => "str" | .sorted => "sorted"
theorem boot_bi (b : BI) : bootBuiltins (biS b) = some (biV b) := by cases b <;> decide +kernel
/-- what a built-in does, on values that bear data -/
def BiR (X : Cx) (f : Value) (g : List D → Option Val) : Prop :=
  ∃ r, CallR X f r ∧ ∀ Γ σ H s Q vs ds res (W : WX) (ca : CA), RS X.K Γ σ H s → ContL X.K Γ.F H vs ds → g ds = some res → WE X.K W ca Γ σ H s Q (.ok res s) → r vs H Q
theorem BiR.or {f : Value} {g g' g2 : List D → Option Val} (h : BiR X f g) (h' : BiR X f g') (e : ∀ x r, g2 x = some r → g x = some r ∨ g' x = some r) : BiR X f g2 := by
  obtain ⟨r, o, i⟩ := h
  obtain ⟨r', o', i'⟩ := h'
  refine ⟨_, o.or o', fun Γ σ H s Q vs ds res W ca R cs q w => ?_⟩
  rcases e ds res q with z | z
  · exact .inl (i Γ σ H s Q vs ds res W ca R cs z w)
  · exact .inr (i' Γ σ H s Q vs ds res W ca R cs z w)
theorem ContL.one {K : PySem.W.Frag} {F : Addr → Prop} {H : Hp} {vs : List V} {d : D} (h : ContL K F H vs [d]) : ∃ v, vs = [v] ∧ Cont K F H v d := by
  cases h with
  | cons a b => cases b; exact ⟨_, rfl, a⟩
theorem ContL.two {K : PySem.W.Frag} {F : Addr → Prop} {H : Hp} {vs : List V} {d d' : D} (h : ContL K F H vs [d, d']) : ∃ v v', vs = [v, v'] ∧ Cont K F H v d ∧ Cont K F H v' d' := by
  cases h with
  | cons a b =>
    cases b with
    | cons a' b' => cases b'; exact ⟨_, _, rfl, a, a'⟩
theorem intsOf_eq : ∀ {ds : List D} {ns : List Int}, intsOf ds = some ns → ds = ns.map D.int
  | [], ns, h => by cases h; rfl
  | d :: ds, ns, h => by
    cases d <;> simp only [intsOf] at h <;> try cases h
    cases q : intsOf ds with
    | none => rw [q] at h; cases h
    | some m => rw [q] at h; cases h; rw [List.map_cons, intsOf_eq q]
theorem blsOf_eq : ∀ {ds : List D} {ns : List Bool}, blsOf ds = some ns → ds = ns.map D.bl
  | [], ns, h => by cases h; rfl
  | d :: ds, ns, h => by
    cases d <;> simp only [blsOf] at h <;> try cases h
    cases q : blsOf ds with
    | none => rw [q] at h; cases h
    | some m => rw [q] at h; cases h; rw [List.map_cons, blsOf_eq q]
theorem RepL.toBls {K : PySem.W.Frag} {F : Addr → Prop} {H : Hp} : ∀ {vs : List V} {ns : List Bool}, RepL K F H vs (ns.map D.bl) → vs = ns.map V.bl
  | vs, [], h => by
    have h' : RepL K F H vs [] := h
    cases h'; rfl
  | vs, n :: ns, h => by
    have h' : RepL K F H vs (D.bl n :: ns.map D.bl) := h
    cases h' with
    | cons a b => cases a; rw [b.toBls]; rfl
/-- a list of ints -/
theorem Cont.ints {K : PySem.W.Frag} {F : Addr → Prop} {H : Hp} {v : V} {ds : List D} {ns : List Int} (h : Cont K F H v (.lst ds)) (e : intsOf ds = some ns) : ∃ a, v = .ref a ∧ SqL K H a (ns.map V.int) := by
  obtain ⟨a, vs, rfl, g1, g2⟩ := h.lst
  rw [intsOf_eq e] at g2
  exact ⟨a, rfl, by rw [← g2.toInts]; exact SqL.of g1⟩
theorem maxI_spec : ∀ {ns : List Int}, 0 < ns.length → maxI ns ∈ ns ∧ ∀ y ∈ ns, y ≤ maxI ns
  | [a], _ => ⟨by simp [maxI], by simp [maxI]⟩
  | a :: b :: r, _ => by
    obtain ⟨h1, h2⟩ := maxI_spec (ns := b :: r) (by simp)
    have e : maxI (a :: b :: r) = max a (maxI (b :: r)) := rfl
    rw [e]
    refine ⟨?_, fun y hy => ?_⟩
    · rcases Int.le_total a (maxI (b :: r)) with h | h
      · rw [Int.max_eq_right h]; exact List.mem_cons_of_mem _ h1
      · rw [Int.max_eq_left h]; exact List.mem_cons_self
    · rcases List.mem_cons.mp hy with e | hy
      · subst e; exact Int.le_max_left _ _
      · exact Int.le_trans (h2 y hy) (Int.le_max_right _ _)
theorem minI_spec : ∀ {ns : List Int}, 0 < ns.length → minI ns ∈ ns ∧ ∀ y ∈ ns, minI ns ≤ y
  | [a], _ => ⟨by simp [minI], by simp [minI]⟩
  | a :: b :: r, _ => by
    obtain ⟨h1, h2⟩ := minI_spec (ns := b :: r) (by simp)
    have e : minI (a :: b :: r) = min a (minI (b :: r)) := rfl
    rw [e]
    refine ⟨?_, fun y hy => ?_⟩
    · rcases Int.le_total a (minI (b :: r)) with h | h
      · rw [Int.min_eq_left h]; exact List.mem_cons_self
      · rw [Int.min_eq_right h]; exact List.mem_cons_of_mem _ h1
    · rcases List.mem_cons.mp hy with e | hy
      · subst e; exact Int.min_le_left _ _
      · exact Int.le_trans (Int.min_le_right _ _) (h2 y hy)
theorem sorted_unique : ∀ {xs ys : List Int}, xs.Perm ys → xs.Pairwise (· ≤ ·) → ys.Pairwise (· ≤ ·) → xs = ys
  | [], ys, h, _, _ => (List.Perm.eq_nil h.symm).symm
  | x :: xs, [], h, _, _ => absurd (List.Perm.eq_nil h) (by simp)
  | x :: xs, y :: ys, h, h1, h2 => by
    have e : x = y := by
      have a1 : x ∈ y :: ys := h.mem_iff.mp List.mem_cons_self
      have a2 : y ∈ x :: xs := h.mem_iff.mpr List.mem_cons_self
      rcases List.mem_cons.mp a1 with e | a1
      · exact e
      · rcases List.mem_cons.mp a2 with e | a2
        · exact e.symm
        · exact Int.le_antisymm ((List.pairwise_cons.mp h1).1 y a2) ((List.pairwise_cons.mp h2).1 x a1)
    subst e
    rw [sorted_unique (List.Perm.cons_inv h) (List.pairwise_cons.mp h1).2 (List.pairwise_cons.mp h2).2]
theorem sortI_perm (ns : List Int) : (ns.mergeSort (fun a b => decide (a ≤ b))).Perm ns := List.mergeSort_perm _ _
theorem sortI_sorted (ns : List Int) : (ns.mergeSort (fun a b => decide (a ≤ b))).Pairwise (· ≤ ·) := by
  have := List.pairwise_mergeSort (le := fun a b : Int => decide (a ≤ b)) (fun a b c h1 h2 => by simp at *; omega) (fun a b => by simp; omega) ns
  exact this.imp fun h => by simpa using h
theorem bi_len : BiR X (biV .len) (biD .len) := by
  refine ⟨_, call_len_seq, fun Γ σ H s Q vs ds res W ca R cs q w => ?_⟩
  cases ds with
  | nil => cases q
  | cons d ds =>
    cases ds with
    | cons _ _ => cases d <;> cases q
    | nil =>
      obtain ⟨v, rfl, cv⟩ := cs.one
      cases d with
      | lst xs =>
        cases q
        obtain ⟨p, vs, rfl, g1, g2⟩ := cv.lst
        exact ⟨p, vs, rfl, .inl (SqL.of g1), by rw [g2.length]; exact w.fro (v := V.int _) R (.int _)⟩
      | tup xs =>
        cases q
        obtain ⟨p, vs, rfl, g1, g2⟩ := cv.sqT
        exact ⟨p, vs, rfl, .inr g1, by rw [g2.length]; exact w.fro (v := V.int _) R (.int _)⟩
      | scr xs =>
        cases q
        obtain ⟨p, rfl, g1⟩ := cv.scr
        exact ⟨p, _, rfl, .inl g1, by rw [List.length_map]; exact w.fro (v := V.int _) R (.int _)⟩
      | _ => cases q
theorem bi_list : BiR X (biV .list) (biD .list) := by
  refine ⟨_, call_list_of, fun Γ σ H s Q vs ds res W ca R cs q w => ?_⟩
  cases ds with
  | nil => cases q
  | cons d ds =>
    cases ds with
    | cons _ _ => cases d <;> cases q
    | nil =>
      obtain ⟨v, rfl, cv⟩ := cs.one
      cases d with
      | lst xs =>
        cases q
        obtain ⟨p, vs, rfl, g1, g2⟩ := cv.lst
        exact ⟨p, vs, rfl, .inl (SqL.of g1), fun z hz => w.layOwn R hz (cell_lst hz g2)⟩
      | tup xs =>
        cases q
        obtain ⟨p, vs, rfl, g1, g2⟩ := cv.sqT
        exact ⟨p, vs, rfl, .inr g1, fun z hz => w.layOwn R hz (cell_lst hz g2)⟩
      | _ => cases q
theorem bi_tuple : BiR X (biV .tuple) (biD .tuple) := by
  refine ⟨_, call_tuple_of, fun Γ σ H s Q vs ds res W ca R cs q w => ?_⟩
  cases ds with
  | nil => cases q
  | cons d ds =>
    cases ds with
    | cons _ _ => cases d <;> cases q
    | nil =>
      obtain ⟨v, rfl, cv⟩ := cs.one
      cases d with
      | lst xs =>
        cases q
        obtain ⟨p, vs, rfl, g1, g2⟩ := cv.lst
        exact ⟨p, vs, rfl, .inl ⟨SqL.of g1, fun z hz => w.lay R hz (rep_tup hz g2)⟩⟩
      | tup xs =>
        cases q
        obtain ⟨p, vs, rfl, g1, g2⟩ := cv.sqT
        exact ⟨p, vs, rfl, .inr ⟨g1, w.fro R cv.repT⟩⟩
      | _ => cases q
def sumL : List D → Option Val | [.lst xs] => (intsOf xs).map fun ns => (.int ns.sum, .fro) | _ => none
def sumT : List D → Option Val | [.tup xs] => (intsOf xs).map fun ns => (.int ns.sum, .fro) | _ => none
/-- a tuple of ints -/
theorem Cont.intsT {K : PySem.W.Frag} {F : Addr → Prop} {H : Hp} {v : V} {ds : List D} {ns : List Int} (h : Cont K F H v (.tup ds)) (e : intsOf ds = some ns) : ∃ a, v = .ref a ∧ SqT K H a (ns.map V.int) := by
  obtain ⟨a, vs, rfl, g1, g2⟩ := h.sqT
  rw [intsOf_eq e] at g2
  exact ⟨a, rfl, by rw [← g2.toInts]; exact g1⟩
theorem bi_sumL (hc : X.calm = true) : BiR X (biV .sum) sumL := by
  refine ⟨_, cr_sum hc, fun Γ σ H s Q vs ds res W ca R cs q w => ?_⟩
  unfold sumL at q
  split at q
  · rename_i xs
    obtain ⟨v, rfl, cv⟩ := cs.one
    cases z : intsOf xs with
    | none => rw [z] at q; cases q
    | some ns =>
      rw [z] at q
      cases q
      obtain ⟨p, rfl, g⟩ := cv.ints z
      exact ⟨p, ns, rfl, g, w.fro (v := V.int _) R (.int _)⟩
  · cases q
theorem bi_sumT (hc : X.calm = true) : BiR X (biV .sum) sumT := by
  refine ⟨_, cr_sumT hc, fun Γ σ H s Q vs ds res W ca R cs q w => ?_⟩
  unfold sumT at q
  split at q
  · rename_i xs
    obtain ⟨v, rfl, cv⟩ := cs.one
    cases z : intsOf xs with
    | none => rw [z] at q; cases q
    | some ns =>
      rw [z] at q
      cases q
      obtain ⟨p, rfl, g⟩ := cv.intsT z
      exact ⟨p, ns, rfl, g, w.fro (v := V.int _) R (.int _)⟩
  · cases q
theorem bi_sum (hc : X.calm = true) : BiR X (biV .sum) (biD .sum) := (bi_sumL hc).or (bi_sumT hc) fun x r h => by
  unfold biD at h
  split at h <;> first | (exact .inl h; done) | (exact .inr h; done) | (rename_i z _ _; cases z; done) | (rename_i z _; cases z; done) | (rename_i z; cases z; done) | (cases h; done) | skip
theorem bi_all (hc : X.calm = true) : BiR X (biV .all) (biD .all) := by
  refine ⟨_, cr_all hc, fun Γ σ H s Q vs ds res W ca R cs q w => ?_⟩
  cases ds with
  | nil => cases q
  | cons d ds =>
    cases ds with
    | cons _ _ => cases d <;> cases q
    | nil =>
      obtain ⟨v, rfl, cv⟩ := cs.one
      cases d with
      | lst xs =>
        cases z : blsOf xs with
        | none => simp only [biD, z] at q; cases q
        | some ns =>
          simp only [biD, z] at q
          cases q
          obtain ⟨p, vs, rfl, g1, g2⟩ := cv.lst
          rw [blsOf_eq z] at g2
          exact ⟨p, ns, rfl, by rw [← g2.toBls]; exact SqL.of g1, w.fro (v := V.bl _) R (.bl _)⟩
      | _ => cases q
def maxL : List D → Option Val | [.lst xs] => (intsOf xs).bind fun ns => if 0 < ns.length then some (.int (maxI ns), .fro) else none | _ => none
def max2 : List D → Option Val | [.int i, .int j] => some (.int (if j > i then j else i), .fro) | _ => none
def minL : List D → Option Val | [.lst xs] => (intsOf xs).bind fun ns => if 0 < ns.length then some (.int (minI ns), .fro) else none | _ => none
def min2 : List D → Option Val | [.int i, .int j] => some (.int (if j < i then j else i), .fro) | _ => none
theorem bi_maxL (hc : X.calm = true) : BiR X (biV .max) maxL := by
  refine ⟨_, cr_max hc, fun Γ σ H s Q vs ds res W ca R cs q w => ?_⟩
  unfold maxL at q
  split at q
  · rename_i xs
    obtain ⟨v, rfl, cv⟩ := cs.one
    cases z : intsOf xs with
    | none => rw [z] at q; cases q
    | some ns =>
      rw [z] at q
      have q : (if 0 < ns.length then some ((D.int (maxI ns), Kd.fro) : Val) else none) = some res := q
      split at q
      · rename_i hn
        cases q
        obtain ⟨p, rfl, g⟩ := cv.ints z
        refine ⟨p, ns, rfl, g, hn, fun m hm hle => ?_⟩
        obtain ⟨h1, h2⟩ := maxI_spec hn
        have e : m = maxI ns := Int.le_antisymm (h2 m hm) (hle _ h1)
        rw [e]
        exact w.fro (v := V.int _) R (.int _)
      · cases q
  · cases q
theorem bi_minL (hc : X.calm = true) : BiR X (biV .min) minL := by
  refine ⟨_, cr_min hc, fun Γ σ H s Q vs ds res W ca R cs q w => ?_⟩
  unfold minL at q
  split at q
  · rename_i xs
    obtain ⟨v, rfl, cv⟩ := cs.one
    cases z : intsOf xs with
    | none => rw [z] at q; cases q
    | some ns =>
      rw [z] at q
      have q : (if 0 < ns.length then some ((D.int (minI ns), Kd.fro) : Val) else none) = some res := q
      split at q
      · rename_i hn
        cases q
        obtain ⟨p, rfl, g⟩ := cv.ints z
        refine ⟨p, ns, rfl, g, hn, fun m hm hle => ?_⟩
        obtain ⟨h1, h2⟩ := minI_spec hn
        have e : m = minI ns := Int.le_antisymm (hle _ h1) (h2 m hm)
        rw [e]
        exact w.fro (v := V.int _) R (.int _)
      · cases q
  · cases q
theorem bi_max2 (hc : X.calm = true) : BiR X (biV .max) max2 := by
  refine ⟨_, call_max2 hc, fun Γ σ H s Q vs ds res W ca R cs q w => ?_⟩
  unfold max2 at q
  split at q
  · obtain ⟨v, v', rfl, c1, c2⟩ := cs.two
    cases q
    exact ⟨_, _, by rw [c1.int, c2.int], w.fro (v := V.int _) R (.int _)⟩
  · cases q
theorem bi_min2 (hc : X.calm = true) : BiR X (biV .min) min2 := by
  refine ⟨_, call_min2 hc, fun Γ σ H s Q vs ds res W ca R cs q w => ?_⟩
  unfold min2 at q
  split at q
  · obtain ⟨v, v', rfl, c1, c2⟩ := cs.two
    cases q
    exact ⟨_, _, by rw [c1.int, c2.int], w.fro (v := V.int _) R (.int _)⟩
  · cases q
theorem bi_max (hc : X.calm = true) : BiR X (biV .max) (biD .max) := (bi_maxL hc).or (bi_max2 hc) fun x r h => by
  unfold biD at h
  split at h <;> first | (exact .inl h; done) | (exact .inr h; done) | (rename_i z _ _; cases z; done) | (rename_i z _; cases z; done) | (rename_i z; cases z; done) | (cases h; done) | skip
theorem bi_min (hc : X.calm = true) : BiR X (biV .min) (biD .min) := (bi_minL hc).or (bi_min2 hc) fun x r h => by
  unfold biD at h
  split at h <;> first | (exact .inl h; done) | (exact .inr h; done) | (rename_i z _ _; cases z; done) | (rename_i z _; cases z; done) | (rename_i z; cases z; done) | (cases h; done) | skip
theorem bi_abs : BiR X (biV .abs) (biD .abs) := by
  refine ⟨_, call_abs, fun Γ σ H s Q vs ds res W ca R cs q w => ?_⟩
  cases ds with
  | nil => cases q
  | cons d ds =>
    cases ds with
    | cons _ _ => cases d <;> cases q
    | nil =>
      obtain ⟨v, rfl, cv⟩ := cs.one
      cases d with
      | int i =>
        cases q
        exact ⟨i, by rw [cv.int], w.fro (v := V.int _) R (.int _)⟩
      | _ => cases q
theorem bi_int : BiR X (biV .int) (biD .int) := by
  refine ⟨_, call_int1, fun Γ σ H s Q vs ds res W ca R cs q w => ?_⟩
  cases ds with
  | nil => cases q
  | cons d ds =>
    cases ds with
    | cons _ _ => cases d <;> cases q
    | nil =>
      obtain ⟨v, rfl, cv⟩ := cs.one
      cases d with
      | int i =>
        cases q
        exact .inl ⟨i, by rw [cv.int], w.fro (v := V.int _) R (.int _)⟩
      | bl i =>
        cases q
        exact .inr ⟨i, by rw [cv.bl], w.fro (v := V.int _) R (.int _)⟩
      | _ => cases q
theorem bi_str : BiR X (biV .str) (biD .str) := by
  refine ⟨_, call_str_int, fun Γ σ H s Q vs ds res W ca R cs q w => ?_⟩
  cases ds with
  | nil => cases q
  | cons d ds =>
    cases ds with
    | cons _ _ => cases d <;> cases q
    | nil =>
      obtain ⟨v, rfl, cv⟩ := cs.one
      cases d with
      | int i =>
        simp only [biD] at q
        split at q
        · rename_i hz
          cases q
          exact ⟨i, by rw [cv.int], hz, w.fro (v := V.str _) R (.str _)⟩
        · cases q
      | _ => cases q
def srtL : List D → Option Val | [.lst xs] => (intsOf xs).map fun ns => (.lst ((sortI ns).map D.int), .fre) | _ => none
def srtK : List D → Option Val | [.dic kds] => (keysI kds).map fun ns => (.lst ((sortI ns).map D.int), .fre) | _ => none
theorem sortI_one {ns ms : List Int} (hp : ms.Perm ns) (hs : ms.Pairwise (· ≤ ·)) : ms = sortI ns := sorted_unique (hp.trans (sortI_perm ns).symm) hs (sortI_sorted ns)
theorem bi_srtL : BiR X (biV .sorted) srtL := by
  refine ⟨_, cr_sortedI, fun Γ σ H s Q vs ds res W ca R cs q w => ?_⟩
  unfold srtL at q
  split at q
  · rename_i xs
    obtain ⟨v, rfl, cv⟩ := cs.one
    cases z : intsOf xs with
    | none => rw [z] at q; cases q
    | some ns =>
      rw [z] at q
      cases q
      obtain ⟨p, rfl, g⟩ := cv.ints z
      refine ⟨p, ns, rfl, g, fun ns' l hp hs hl => ?_⟩
      rw [sortI_one hp hs]
      exact w.layOwn R hl (cell_lst hl (RepL.ints _))
  · cases q
theorem keysI_eq {K : PySem.W.Frag} {F : Addr → Prop} {H : Hp} : ∀ {kvs : List (Key × V)} {kds : List (Key × D)} {ns : List Int}, RepK K F H kvs kds → keysI kds = some ns → kvs.map (·.1) = ns.map Sum.inl
  | _, _, ns, .nil, e => by cases e; rfl
  | _, _, ns, .cons (k := k) a h, e => by
    cases k with
    | inr _ => cases e
    | inl i =>
      rename_i _ _ _ kds'
      have e : (keysI kds').map (i :: ·) = some ns := e
      cases q : keysI kds' with
      | none => rw [q] at e; cases e
      | some m => rw [q] at e; cases e; rw [List.map_cons, List.map_cons, keysI_eq h q]
theorem bi_srtK (hc : X.calm = true) : BiR X (biV .sorted) srtK := by
  refine ⟨_, cr_sortedDI hc, fun Γ σ H s Q vs ds res W ca R cs q w => ?_⟩
  unfold srtK at q
  split at q
  · rename_i kds
    obtain ⟨v, rfl, cv⟩ := cs.one
    cases z : keysI kds with
    | none => rw [z] at q; cases q
    | some ns =>
      rw [z] at q
      cases q
      obtain ⟨p, kvs, rfl, g1, g2⟩ := cv.dic
      refine ⟨p, kvs, ns, rfl, .inl g1, keysI_eq g2 z, fun ms l hp hs hl => ?_⟩
      rw [sortI_one hp hs]
      exact w.layOwn R hl (cell_lst hl (RepL.ints _))
  · cases q
theorem bi_sorted (hc : X.calm = true) : BiR X (biV .sorted) (biD .sorted) := bi_srtL.or (bi_srtK hc) fun x r h => by
  unfold biD at h
  split at h <;> first | (exact .inl h; done) | (exact .inr h; done) | (rename_i z _ _; cases z; done) | (rename_i z _; cases z; done) | (rename_i z; cases z; done) | (cases h; done) | skip
theorem bi_allB (hc : X.calm = true) (b : BI) : BiR X (biV b) (biD b) := by
  cases b
  · exact bi_len
  · exact bi_list
  · exact bi_tuple
  · exact bi_sum hc
  · exact bi_all hc
  · exact bi_max hc
  · exact bi_min hc
  · exact bi_abs
  · exact bi_int
  · exact bi_str
  · exact bi_sorted hc
theorem c_bi {b : BI} {ds : DEs} {es : List Expr} {p : Pos} (hc : X.calm = true) (hA : SA C ca X W ds (e :: es)) (hg : Gl X (biS b)) (hm : X.mg (biS b) = none) (hs : starEach (e :: es) X.env = (false, eval e X.env) :: starEach es X.env)
    (hpl : (backTo pos (starEach es X.env)).any (·.1) = false) : SE C ca X W (.bi b ds) (.Call (.Name (biS b) p) (e :: es) [] pos) := by
  obtain ⟨t, pt, i⟩ := hA.ex
  obtain ⟨r, hr, hi⟩ := bi_allB hc b
  have core : ∀ Γ σ H s Q, RS X.K Γ σ H s → WE X.K W ca Γ σ H s Q (evalE C (.bi b ds) s) → tCB r t σ H Q := fun Γ σ H s Q R h => by
    simp only [evalE] at h
    refine i Γ σ H s _ R (h.bindL fun Γ1 H1 s1 vs rs st1 R1 rv fr w => ?_)
    cases q : biD b (rs.map (·.1)) with
    | none => rw [q] at w; exact w.elim
    | some res => rw [q] at w; exact hi Γ1 σ H1 s1 Q vs _ res W ca R1 (rv.cont R1) q w
  have hn : biS b ≠ "__name__" := by cases b <;> decide +kernel
  have hd : (biS b == ("__debug__" : Str)) = false := by cases b <;> decide +kernel
  have hv := boot_bi b
  cases hb : biV b with
  | builtin id =>
    rw [hb] at hr hv
    exact ⟨_, pe_callB hr hg hm hv pt hn hd hs hpl, core⟩
  | type T =>
    rw [hb] at hr hv
    exact ⟨_, pe_callTy hr hg hm hv pt hn hd hs hpl, core⟩
  | _ => cases b <;> cases hb

/-! sets of ints, at once measured or sorted -/
theorem onceD_eq : ∀ l : List Int, onceD l = once l
  | [] => rfl
  | a :: r => by
    unfold onceD once
    rw [onceD_eq r]
def setB : Bool → BI
  | true => .len
  | false => .sorted
theorem c_setf {b : Bool} {p p2 q pos : Pos} (hc : X.calm = true) (hg : Gl X (biS (setB b))) (hm : X.mg (biS (setB b)) = none) (hg2 : Gl X "set") (hm2 : X.mg "set" = none) (ha : SE C ca X W a e1) (hs : starEach [e1] X.env = (false, eval e1 X.env) :: starEach [] X.env) :
    SE C ca X W (.setf b a) (.Call (.Name (biS (setB b)) p) [.Call (.Name "set" p2) [e1] [] q] [] pos) := by
  obtain ⟨ta, pa, ia⟩ := ha.ex
  have pset : PE X (.Call (.Name "set" p2) [e1] [] q) (tCB (rMkSet X.K X.w) (tCons ta tNil)) := pe_callTy (T := "set") (cr_setL hc) hg2 hm2 (by decide +kernel) (pa_cons pa pa_nil hs) (by decide) (by decide) hs (by rfl)
  have core : ∀ {v : V} {ds : List D} {ns : List Int} {Γ : Gh} {H : Hp}, Cont X.K Γ.F H v (.lst ds) → intsOf ds = some ns → ∃ l, v = .ref l ∧ SqL X.K H l (ns.map V.int) := fun c z => c.ints z
  cases b with
  | true =>
    refine ⟨_, pe_callB cr_lenSetO hg hm (boot_bi .len) (pa_cons pset pa_nil (by rfl)) (by decide) (by decide) (by rfl) (by rfl), fun Γ σ H s Q R h => ?_⟩
    simp only [evalE] at h
    refine ia Γ σ H s _ R (h.bindE fun Γ1 H1 s1 v x st1 R1 rv1 fr1 h1 => ?_)
    obtain ⟨dx, kx⟩ := x
    cases dx with
    | lst ds =>
      cases z : intsOf ds with
      | none => simp only [setD, z] at h1; exact h1.elim
      | some ns =>
        obtain ⟨l, rfl, g⟩ := core (rv1.cont R1) z
        simp only [setD, z, DL.obind'] at h1
        split at h1
        · rename_i hl
          refine ⟨l, ns, rfl, g, hl, fun p hp => ⟨p, _, _, rfl, upd_same, ?_⟩⟩
          obtain ⟨st2, R2⟩ := R1.layOwn (SetO X.w p (fun j => decide (j ∈ ns)) (once ns).length) hp
          rw [onceD_eq] at h1
          exact (WE.shift st2 h1).fro (v := V.int _) R2 (.int _)
        · exact h1.elim
    | _ => exact h1.elim
  | false =>
    refine ⟨_, pe_callB (cr_sortedSet hc) hg hm (boot_bi .sorted) (pa_cons pset pa_nil (by rfl)) (by decide) (by decide) (by rfl) (by rfl), fun Γ σ H s Q R h => ?_⟩
    simp only [evalE] at h
    refine ia Γ σ H s _ R (h.bindE fun Γ1 H1 s1 v x st1 R1 rv1 fr1 h1 => ?_)
    obtain ⟨dx, kx⟩ := x
    cases dx with
    | lst ds =>
      cases z : intsOf ds with
      | none => simp only [setD, z] at h1; exact h1.elim
      | some ns =>
        obtain ⟨l, rfl, g⟩ := core (rv1.cont R1) z
        simp only [setD, z, DL.obind'] at h1
        split at h1
        · rename_i hl
          refine ⟨l, ns, rfl, g, by omega, fun p hp => ⟨p, _, _, rfl, upd_same, Nat.lt_of_le_of_lt (len_once ns) hl, fun ms r hs hm hn hr => ?_⟩⟩
          obtain ⟨st2, R2⟩ := R1.layOwn (SetO X.w p (fun j => decide (j ∈ ns)) (once ns).length) hp
          have e : ms = sortI (onceD ns) := by
            rw [onceD_eq]
            refine sortI_one (perm_of_mem (hs.imp fun h => by omega) (nodup_once ns) fun k => ?_) (hs.imp fun h => by omega)
            rw [hm k, mem_once, decide_eq_true_iff]
          rw [e]
          exact (WE.shift st2 h1).layOwn R2 hr (cell_lst hr (RepL.ints _))
        · exact h1.elim
    | _ => exact h1.elim

/-! the items of a dict of ints, sorted; a range as a list -/
theorem pairsK_rep {K : PySem.W.Frag} {F : Addr → Prop} {H : Hp} : ∀ {kds : List (Key × D)} {kvs : List (Key × V)} {ps : List (Int × Int)}, RepK K F H kvs kds → pairsK kds = some ps → kvs = kvI ps
  | [], _, _, r, q => by cases r; cases q; rfl
  | (k, d) :: r, _, ps, h, q => by
    cases h with
    | cons h1 h2 =>
      cases k with
      | inr x => cases d <;> cases q
      | inl i =>
        cases d with
        | int v =>
          cases z : pairsK r with
          | none => simp only [pairsK, z] at q; cases q
          | some qs =>
            simp only [pairsK, z] at q
            cases q
            cases h1
            rw [pairsK_rep h2 z]
            rfl
        | _ => cases q
theorem lexLe_of {a b : Int × Int} : lexLe a b = !(SrtO.lexB b a) := by
  have e := SrtO.lexB_iff (p := b) (q := a)
  unfold lexLe
  cases z : SrtO.lexB b a with
  | true =>
    have := e.mp z
    simp only [Bool.not_true, decide_eq_false_iff_not]
    omega
  | false =>
    have : ¬ _ := fun y => Bool.false_ne_true (z.symm.trans (e.mpr y))
    simp only [Bool.not_false, decide_eq_true_eq]
    omega
theorem lex_unique {a b : Int × Int} (h1 : lexLe a b = true) (h2 : lexLe b a = true) : a = b := by
  unfold lexLe at h1 h2
  simp only [decide_eq_true_eq] at h1 h2
  obtain ⟨a1, a2⟩ := a
  obtain ⟨b1, b2⟩ := b
  simp only at h1 h2
  exact Prod.ext (by show a1 = b1; omega) (by show a2 = b2; omega)
theorem lex_sorted_unique : ∀ {xs ys : List (Int × Int)}, xs.Perm ys → xs.Pairwise (fun a b => lexLe a b = true) → ys.Pairwise (fun a b => lexLe a b = true) → xs = ys
  | [], ys, p, _, _ => (List.Perm.nil_eq p)
  | x :: xs, [], p, _, _ => absurd p.length_eq (by simp)
  | x :: xs, y :: ys, p, h1, h2 => by
    have i1 := List.pairwise_cons.mp h1
    have i2 := List.pairwise_cons.mp h2
    have rf : ∀ a : Int × Int, lexLe a a = true := fun a => by unfold lexLe; simp
    have xy : lexLe x y = true := by
      rcases List.mem_cons.mp (p.mem_iff.mpr List.mem_cons_self : y ∈ x :: xs) with e | m
      · rw [e]; exact rf x
      · exact i1.1 y m
    have yx : lexLe y x = true := by
      rcases List.mem_cons.mp (p.mem_iff.mp List.mem_cons_self : x ∈ y :: ys) with e | m
      · rw [e]; exact rf y
      · exact i2.1 x m
    have e := lex_unique xy yx
    subst e
    rw [lex_sorted_unique p.cons_inv i1.2 i2.2]
theorem sortP_perm (ps : List (Int × Int)) : (sortP ps).Perm ps := List.mergeSort_perm _ _
theorem sortP_sorted (ps : List (Int × Int)) : (sortP ps).Pairwise (fun a b => lexLe a b = true) := List.pairwise_mergeSort (fun a b c h1 h2 => by
    unfold lexLe at *
    simp only [decide_eq_true_eq] at *
    omega) (fun a b => by
    unfold lexLe
    simp only [Bool.or_eq_true, decide_eq_true_eq]
    omega) ps
/-- new read only things beside the state -/
theorem RS.grow {K : PySem.W.Frag} {Γ : Gh} {σ : St} {H H' : Hp} {s : S} (R : RS K Γ σ H s) (ts : List Addr) (k : ∀ a o, H a = some o → H' a = some o) (new : ∀ t ∈ ts, H t = none) (there : ∀ t ∈ ts, H' t ≠ none) :
    Step Γ σ H s { Γ with F := fun a => Γ.F a ∨ a ∈ ts } H' s ∧ RS K { Γ with F := fun a => Γ.F a ∨ a ∈ ts } σ H' s := by
  have st : Step Γ σ H s { Γ with F := fun a => Γ.F a ∨ a ∈ ts } H' s := ⟨fun _ h => .inl h, rfl, rfl, k, fun a h => by
    rcases h with h | h
    · exact .inl h
    · exact .inr (.inl (new a h)), fun _ _ h => .inl h, rfl⟩
  refine ⟨st, ⟨R.len, fun i d e => ?_, fun i d e => ?_, R.dist, fun a u e => k a u (R.entry a u e), fun a h => ?_, fun a h => ?_, R.ws⟩⟩
  · obtain ⟨v, h1, h2⟩ := R.fro i d e
    exact ⟨v, h1, h2.step st⟩
  · obtain ⟨v, h1, q, rfl, h2, h3, h4⟩ := R.own i d e
    refine ⟨_, h1, q, rfl, fun z => ?_, h3, h4.step st⟩
    rcases z with z | z
    · exact h2 z
    · exact h4.trk (new q z)
  · rcases h with h | h
    · cases q : H a with
      | none => exact absurd q (R.trk a h)
      | some u => rw [k a u q]; simp
    · exact there a h
  · rcases h with h | h
    · exact R.fnew a h
    · exact .inr (R.newE (new a h))
theorem pairs_rep {K : PySem.W.Frag} {F : Addr → Prop} {H : Hp} : ∀ {ts : List Addr} {qs : List (Int × Int)}, Paired (fun (t : Addr) (q : Int × Int) => H t = some (.tup [.int q.1, .int q.2])) ts qs → (∀ t ∈ ts, F t) → RepL K F H (ts.map V.ref) (qs.map encP)
  | _, _, .nil, _ => .nil
  | _, _, .cons h t, f => .cons (.tup (f _ List.mem_cons_self) h (.cons (.int _) (.cons (.int _) .nil))) (pairs_rep t fun u m => f u (List.mem_cons_of_mem _ m))
theorem c_srtI {p apos cpos pos : Pos} (hc : X.calm = true) (hg : Gl X "sorted") (hm : X.mg "sorted" = none) (ha : SE C ca X W a e1) (hbase : attributeBase e1 "items" X.env (eval e1 X.env) = eval e1 X.env) (hline : (apos.endLine == cpos.line) = true) :
    SE C ca X W (.srtI a) (.Call (.Name "sorted" p) [.Call (.Attribute e1 "items" apos) [] [] cpos] [] pos) := by
  obtain ⟨ta, pa, ia⟩ := ha.ex
  refine ⟨_, pe_sortIt hc pa hg hm hbase hline, fun Γ σ H s Q R h => ?_⟩
  simp only [evalE] at h
  refine ia Γ σ H s _ R (h.bindE fun Γ1 H1 s1 v x st1 R1 rv1 fr1 h1 => ?_)
  obtain ⟨dx, kx⟩ := x
  cases dx with
  | dic kds =>
    cases z : pairsK kds with
    | none => simp only [itemsD, z] at h1; exact h1.elim
    | some ps =>
      simp only [itemsD, z] at h1
      obtain ⟨l, kvs, rfl, g, rk⟩ := (rv1.cont R1).dic
      rw [pairsK_rep rk z] at g
      refine ⟨l, ps, rfl, g, fun H' p ts qs k hp hn hpt hL hT pm ps' pr => ?_⟩
      have eq : qs = sortP ps := lex_sorted_unique (pm.trans (sortP_perm ps).symm) (ps'.imp fun {a b} h => by rw [lexLe_of, h]; rfl) (sortP_sorted ps)
      obtain ⟨st2, R2⟩ := R1.grow ts k hn hT
      have h1 : WE X.K W ca Γ1 σ H1 s1 Q (.ok (.lst ((sortP ps).map encP), .fre) s1) := h1
      refine h1 _ _ st2 R2 (.ref p) ⟨⟨p, rfl, fun y => ?_, R1.newE hp, ts.map V.ref, hL, ?_⟩, fun i d' e q => ?_⟩ fun _ p' e => by cases e; exact hp
      · rcases y with y | y
        · exact R1.newF hp y
        · exact hpt y
      · rw [← eq]
        exact pairs_rep pr fun t m => .inr m
      · obtain ⟨v, g1, p', rfl, g2, g3, g4⟩ := R1.own i d' e
        rw [q] at g1; cases g1
        exact g4.trk hp
  | _ => exact h1.elim
theorem c_lrng {b : DE} {p p2 q pos : Pos} (hc : X.calm = true) (hg : Gl X "list") (hm : X.mg "list" = none) (hg2 : Gl X "range") (hm2 : X.mg "range" = none) (ha : SE C ca X W a e1) (hb : SE C ca X W b e2) (hs : starEach [e1, e2] X.env = (false, eval e1 X.env) :: starEach [e2] X.env) (hs2 : starEach [e2] X.env = (false, eval e2 X.env) :: starEach [] X.env) :
    SE C ca X W (.lrng a b) (.Call (.Name "list" p) [.Call (.Name "range" p2) [e1, e2] [] q] [] pos) := by
  obtain ⟨ta, pa, ia⟩ := ha.ex
  obtain ⟨tb, pb, ib⟩ := hb.ex
  refine ⟨_, pe_listRg hc hg hm (prg_2 hg2 hm2 pa pb hs hs2 (by rw [hs2]; rfl)), fun Γ σ H s Q R h => ?_⟩
  simp only [evalE] at h
  refine ia Γ σ H s _ R (h.bindE fun Γ1 H1 s1 v x st1 R1 rv1 fr1 h1 => ib Γ1 σ H1 s1 _ R1 (h1.bindE fun Γ2 H2 s2 w y st2 R2 rv2 fr2 h2 => ?_))
  obtain ⟨dx, kx⟩ := x
  obtain ⟨dy, ky⟩ := y
  cases dx with
  | int m =>
    cases dy with
    | int n =>
      have h2 : WE X.K W ca Γ2 σ H2 s2 Q (opt (lrngD m n) s2) := h2
      unfold lrngD at h2
      split at h2
      · rename_i hr
        have ev := ((rv1.cont R1).step st2).int
        have ew := (rv2.cont R2).int
        refine ⟨m, n, ev, ew, ⟨hr.1, hr.2.1, hr.2.2.1, hr.2.2.2.1, hr.2.2.2.2⟩, fun q hq => ?_⟩
        have h3 : WE X.K W ca Γ2 σ H2 s2 Q (.ok (.lst ((List.range (n - m).toNat).map fun (i : Nat) => .int (m + i)), .fre) s2) := h2
        refine h3.layOwn R2 hq (cell_lst hq ?_)
        have e1 : rgV m n = ((List.range (n - m).toNat).map fun (i : Nat) => m + i).map V.int := by unfold rgV; rw [List.map_map]; rfl
        have e2 : ((List.range (n - m).toNat).map fun (i : Nat) => D.int (m + i)) = ((List.range (n - m).toNat).map fun (i : Nat) => m + i).map D.int := by rw [List.map_map]; rfl
        rw [e1, e2]
        exact RepL.ints _
      · exact h2.elim
    | _ => exact h2.elim
  | _ => exact h2.elim

/-! methods -/
def mtT : MT → String
  | .get => "dict" | .count => "list" | .index => "list"
def mtN : MT → Str
  | .get => "get" | .count => "count" | .index => "index"
def rGet : V → List V → Hp → VK → Prop := fun x ys H Q => ∃ a o, x = .ref a ∧ ((∃ y, ys = [y] ∧ DGet H a y o ∧ Q (o.getD .non) H) ∨ ∃ y d, ys = [y, d] ∧ DGet H a y o ∧ Q (o.getD d) H)
theorem mt_get (hu : X.A.units + 1 < cLine) : MtR X "dict.get" rGet := by
  rintro pins s σ H x ys v us Q I rx ry ⟨a, o, rfl, ⟨y, rfl, g, q⟩ | ⟨y, d, rfl, g, q⟩⟩
  · cases rx
    obtain ⟨u, rfl, r1⟩ := vals1 ry
    exact d_get1 hu I g r1 fun w' s' I' rw' => ⟨_, H, I', rw', q⟩
  · cases rx
    obtain ⟨u, w, rfl, r1, r2⟩ := vals2 ry
    exact d_get2 hu I g r1 r2 fun w' s' I' rw' => ⟨_, H, I', rw', q⟩
/-- what a method does, on values that bear data -/
def MtOk (X : Cx) (m : MT) : Prop :=
  ∃ (id : String) (slot : PySem.Slot (mtT m) (mtN m) id) (r : V → List V → Hp → VK → Prop), typeOf (.builtin id) = pure (.type "method_descriptor") ∧ MtR X id r ∧
    ∀ Γ σ H s Q v vs d ds res (W : WX) (ca : CA), RS X.K Γ σ H s → Cont X.K Γ.F H v d → RepL X.K Γ.F H vs ds → methD m d ds = some res → WE X.K W ca Γ σ H s Q (.ok (res, .fro) s) → tyV X.K (mtT m) v H ∧ r v vs H Q
end
end DL

/-! DL6: methods, calls. -/
namespace DL
open PySem L2

section
variable {C : Call} {ca : CA} {X : Cx} {W : WX} {a b c : DE} {e e1 e2 e3 : Expr} {pos : Pos}
theorem RepL.one {K : PySem.W.Frag} {F : Addr → Prop} {H : Hp} {vs : List V} {d : D} (h : RepL K F H vs [d]) : ∃ v, vs = [v] ∧ Rep K F H v d := by
  cases h with
  | cons a b => cases b; exact ⟨_, rfl, a⟩
theorem RepL.two {K : PySem.W.Frag} {F : Addr → Prop} {H : Hp} {vs : List V} {d d' : D} (h : RepL K F H vs [d, d']) : ∃ v v', vs = [v, v'] ∧ Rep K F H v d ∧ Rep K F H v' d' := by
  cases h with
  | cons a b =>
    cases b with
    | cons a' b' => cases b'; exact ⟨_, _, rfl, a, a'⟩
theorem RepK.getD {K : PySem.W.Frag} {F : Addr → Prop} {H : Hp} {kvs : List (Key × V)} {kds : List (Key × D)} (h : RepK K F H kvs kds) (k : Key) {v : V} {d : D} (r : Rep K F H v d) : Rep K F H ((valV kvs k).getD v) ((getD' kds k).getD d) := by
  obtain ⟨h1, h2⟩ := RepK.val k h
  cases q : getD' kds k with
  | none => rw [h2 q]; exact r
  | some d' =>
    obtain ⟨v', e, r'⟩ := h1 d' q
    rw [e]; exact r'
theorem m_get (hu : X.A.units + 1 < cLine) : MtOk X .get := by
  refine ⟨"dict.get", PySem.F.slot_dict_get, rGet, PySem.F.type_dict_get, mt_get hu, fun Γ σ H s Q v vs d ds res W ca R cv rl e w => ?_⟩
  cases d with
  | dic kds =>
    obtain ⟨p, kvs, rfl, g1, g2⟩ := cv.dic
    refine ⟨.inr (.inr (.inl ⟨rfl, .inl ⟨kvs, g1⟩⟩)), ?_⟩
    match ds, rl, e with
    | [k], rl, e =>
      obtain ⟨y, rfl, ry⟩ := rl.one
      cases z : keyOf k with
      | none => simp only [methD, z] at e; cases e
      | some key =>
        simp only [methD, z] at e
        cases e
        exact ⟨p, valV kvs key, rfl, .inl ⟨y, rfl, by rw [keyOf_kV (.rep ry) z]; exact DGet.k g1, w.fro R (g2.getD key .non)⟩⟩
    | [k, d], rl, e =>
      obtain ⟨y, z', rfl, ry, rz⟩ := rl.two
      cases z : keyOf k with
      | none => simp only [methD, z] at e; cases e
      | some key =>
        simp only [methD, z] at e
        cases e
        exact ⟨p, valV kvs key, rfl, .inr ⟨y, z', rfl, by rw [keyOf_kV (.rep ry) z]; exact DGet.k g1, w.fro R (g2.getD key rz)⟩⟩
  | _ => cases e
theorem m_count : MtOk X .count := by
  refine ⟨"list.count", PySem.F.slot_list_count, rCntI X.K, PySem.F.type_list_count, mt_lcount, fun Γ σ H s Q v vs d ds res W ca R cv rl e w => ?_⟩
  cases d with
  | lst xs =>
    match ds, rl, e with
    | [.int k], rl, e =>
      obtain ⟨y, rfl, ry⟩ := rl.one
      cases z : intsOf xs with
      | none => simp only [methD, z] at e; cases e
      | some ns =>
        simp only [methD, z] at e
        cases e
        obtain ⟨p, rfl, g⟩ := cv.ints z
        cases ry
        exact ⟨.inl ⟨rfl, _, g⟩, p, ns, k, rfl, rfl, g, w.fro (v := V.int _) R (.int _)⟩
  | _ => cases e
theorem findIdx_spec {α : Type} {p : α → Bool} : ∀ {l : List α} {j : Nat}, l.findIdx? p = some j → (∃ x, l[j]? = some x ∧ p x = true) ∧ ∀ (m : Nat) x, m < j → l[m]? = some x → p x = false
  | [], j, h => by simp at h
  | a :: l, j, h => by
    rw [List.findIdx?_cons] at h
    by_cases q : p a = true
    · rw [if_pos q] at h; cases h
      exact ⟨⟨a, rfl, q⟩, fun m x hm => absurd hm (Nat.not_lt_zero _)⟩
    · rw [if_neg q] at h
      cases z : l.findIdx? p with
      | none => rw [z] at h; cases h
      | some i =>
        rw [z] at h; cases h
        obtain ⟨⟨x, h1, h2⟩, h3⟩ := findIdx_spec z
        refine ⟨⟨x, by simpa using h1, h2⟩, fun m y hm hy => ?_⟩
        cases m with
        | zero => simp at hy; subst hy; simpa using q
        | succ m => exact h3 m y (by simp only at hm; omega) (by simpa using hy)
theorem m_index : MtOk X .index := by
  refine ⟨"list.index", PySem.F.slot_list_index, rIndex X.K, PySem.F.type_list_index, mt_index, fun Γ σ H s Q v vs d ds res W ca R cv rl e w => ?_⟩
  cases d with
  | lst xs =>
    match ds, rl, e with
    | [y], rl, e =>
      obtain ⟨u, rfl, ru⟩ := rl.one
      simp only [methD] at e
      split at e
      · rename_i hc
        obtain ⟨f1, f2⟩ : flat y = true ∧ xs.all flat = true := by simpa only [Bool.and_eq_true] using hc
        cases z : (toPys xs).findIdx? (fun z => PyData.eqv z (toPy y)) with
        | none => rw [z] at e; cases e
        | some j =>
          rw [z] at e
          cases e
          obtain ⟨p, vs', rfl, g1, g2⟩ := cv.lst
          obtain ⟨⟨x, q1, q2⟩, q3⟩ := findIdx_spec z
          rw [toPys_map, List.getElem?_map] at q1
          cases dj : xs[j]? with
          | none => rw [dj] at q1; cases q1
          | some d =>
            rw [dj] at q1
            cases q1
            obtain ⟨w', g3, g4⟩ := g2.get dj
            have fl : ∀ {m : Nat} {d : D}, xs[m]? = some d → flat d = true := fun h => List.all_eq_true.mp f2 _ (List.mem_of_getElem? h)
            refine ⟨.inl ⟨rfl, _, SqL.of g1⟩, p, vs', u, j, w', rfl, rfl, SqL.of g1, flat_rep ru f1, flats_rep g2 f2, g3, by rw [eqV_eqv g4 ru (fl dj) f1]; exact q2, fun m z' hm hz => ?_, w.fro (v := V.int _) R (.int _)⟩
            obtain ⟨d', g5, g6⟩ := g2.get' hz
            rw [eqV_eqv g6 ru (fl g5) f1]
            exact q3 m (toPy d') hm (by rw [toPys_map, List.getElem?_map, g5]; rfl)
      · cases e
  | _ => cases e
theorem m_all (hu : X.A.units + 1 < cLine) (m : MT) : MtOk X m := by
  cases m
  · exact m_get hu
  · exact m_count
  · exact m_index
theorem plainAttrs_mt (m : MT) : PySem.PlainAttrs (mtT m) := by
  cases m
  · exact PySem.F.plainAttrs_dict
  · exact PySem.F.plainAttrs_list
  · exact PySem.F.plainAttrs_list
theorem c_meth {m : MT} {ds : DEs} {es : List Expr} {apos : Pos} (hu : X.A.units + 1 < cLine) (ha : SE C ca X W a e1) (hA : SZ C ca X W ds (e :: es)) (hbase : attributeBase e1 (mtN m) X.env (eval e1 X.env) = eval e1 X.env)
    (hfew : ((backTo pos (starEach (e :: es) X.env)).all (fun x => !x.1) && (backToKw pos (keywordEach [] X.env)).all (fun x => x.1.isSome)
      && decide ((e :: es).length + ([] : List Keyword).length + (if ([] : List Keyword).isEmpty then 0 else 1) < 30)) = true)
    (hline : (apos.endLine == pos.line) = true) (hs : starEach (e :: es) X.env = (false, eval e X.env) :: starEach es X.env) (hpl : (backTo pos (starEach es X.env)).any (·.1) = false) :
    SE C ca X W (.meth m a ds) (.Call (.Attribute e1 (mtN m) apos) (e :: es) [] pos) := by
  obtain ⟨id, slot, r, hty, hm, hi⟩ := m_all (X := X) hu m
  obtain ⟨ta, pa, ia⟩ := ha.ex
  obtain ⟨t, pt, i⟩ := hA.ex
  refine ⟨_, pe_bm (plainAttrs_mt m) slot hty hm pa pt hbase hfew hline hs hpl, fun Γ σ H s Q R h => ?_⟩
  simp only [evalE] at h
  refine ia Γ σ H s _ R (h.bindE fun Γ1 H1 s1 v x st1 R1 rv1 fr1 h1 => ?_)
  have cx := rv1.cont R1
  split at h1
  · rename_i hr
    have ty : tyV X.K (mtT m) v H1 := by
      obtain ⟨d, kd⟩ := x
      cases d with
      | lst xs =>
        obtain ⟨p, vs, rfl, g1, g2⟩ := cx.lst
        cases m with
        | get => cases hr
        | count => exact .inl ⟨rfl, _, SqL.of g1⟩
        | index => exact .inl ⟨rfl, _, SqL.of g1⟩
      | dic kds =>
        obtain ⟨p, vs, rfl, g1, g2⟩ := cx.dic
        cases m with
        | get => exact .inr (.inr (.inl ⟨rfl, .inl ⟨_, g1⟩⟩))
        | count => cases hr
        | index => cases hr
      | _ => cases m <;> cases hr
    refine ⟨ty, i Γ1 σ H1 s1 _ R1 (h1.bindZ fun Γ2 H2 s2 vs ds' st2 R2 rl w => ?_)⟩
    cases q : methD m x.1 ds' with
    | none => rw [q] at w; exact w.elim
    | some res => rw [q] at w; exact (hi Γ2 σ H2 s2 Q v vs x.1 ds' res W ca R2 (cx.step st2) rl q w).2
  · exact h1.elim

end

/-! calls of the program's defs -/
/-- what a def promises: its arguments are read only for it; what it hands back is its own new thing, or read only -/
def specF (ca : CA) (C : Call) (a k : Nat) (K : PySem.W.Frag) : Sp := fun vs H Q E => vs.length = a ∧ ∃ (F : Addr → Prop) (ds : List D), (∀ p, F p → H p ≠ none) ∧ RepL K F H vs ds ∧
  match C k ds [] with
  | .ok d own w => ∀ (F' : Addr → Prop) H' v, (∀ p, F p → F' p) → (∀ p, F' p → F p ∨ H p = none) → (∀ p o, H p = some o → H' p = some o) → (∀ p, F' p → H' p ≠ none) → w = [] →
      (if own then ∃ p, v = .ref p ∧ ¬ F' p ∧ H p = none ∧ Cell K F' H' p d else Rep K F' H' v d) → Q v H'
  | .exc k w => ∀ (F' : Addr → Prop) H', (∀ p, F p → F' p) → (∀ p, F' p → F p ∨ H p = none) → (∀ p o, H p = some o → H' p = some o) → (∀ p, F' p → H' p ≠ none) → w = [] → E (.ref (ca k)) none H'
  | .stuck => False
section
variable {C : Call} {ca : CA} {X : Cx} {W : WX} {a b c : DE} {e e1 e2 e3 : Expr} {pos : Pos}
theorem pe_callS0 {CX : CXT} {k : Nat} {f : Addr} {fd : FuncData} {ps : List Str} {sp : Sp} {E : St → XK} {x : Str} {p : Pos} (F : FnOk X.prog X.w X.K X.mg X.base CX k f fd ps sp) (hr : Room k X.A) (hg : Gl X x) (hm : X.mg x = some (.ref f)) (hk : PySem.W.keepIn X.K (.ref f) = true) (hb : Binds X.K fd ps []) (hx : ∀ σ, PassesAt CX X σ (E σ))
    (hdb : (x == ("__debug__" : Str)) = false) : PE X (.Call (.Name x p) [] [] pos) (tCallS sp E tNil) := by
  refine ⟨fun pins s σ H Q I h => ?_⟩
  refine PySem.wpAny_Call_Name_kw (ld_glob I hg hm ?_ hdb)
  exact PySem.W.callWith_K0 I.kIn hk (run_fnS (us := []) F hr hb (hx σ) I .nil h)

/-- an address that a slot owns -/
def SlotAt (σ : St) (s : S) (p : Addr) : Prop := ∃ (i : Nat) (d : D), s.ρ[i]? = some (.own d) ∧ σ[i]? = some (some (.ref p))
mutual
/-- data without lists and dicts does not lean on the addresses of lists and dicts -/
theorem Rep.imm {K : PySem.W.Frag} {F F' : Addr → Prop} {H : Hp} (hF : ∀ a vs, F a → H a = some (.tup vs) → F' a) : ∀ (d : D) (v : V), Rep K F H v d → imm d = true → Rep K F' H v d
  | .non, _, h, _ => by cases h; exact .non
  | .bl b, _, h, _ => by cases h; exact .bl b
  | .int b, _, h, _ => by cases h; exact .int b
  | .str b, _, h, _ => by cases h; exact .str b
  | .lst ds, _, _, p => by simp [DL.imm] at p
  | .tup ds, _, h, p => by
    cases h with
    | tup f r l => exact .tup (hF _ _ f r) r (RepL.imm hF ds _ l (by simpa only [DL.imm] using p))
  | .dic _, _, _, p => by simp [DL.imm] at p
  | .obj _, _, _, p => by simp [DL.imm] at p
  | .exc _, _, _, p => by simp [DL.imm] at p
  | .fn _, _, _, p => by simp [DL.imm] at p
  | .scr ns, _, h, p => by simp [DL.imm] at p
theorem RepL.imm {K : PySem.W.Frag} {F F' : Addr → Prop} {H : Hp} (hF : ∀ a vs, F a → H a = some (.tup vs) → F' a) : ∀ (ds : List D) (vs : List V), RepL K F H vs ds → imms ds = true → RepL K F' H vs ds
  | [], _, h, _ => by cases h; exact .nil
  | d :: ds, _, h, p => by
    have p' : DL.imm d = true ∧ imms ds = true := by simpa [imms] using p
    cases h with
    | cons a b => exact .cons (Rep.imm hF d _ a p'.1) (RepL.imm hF ds _ b p'.2)
end
/-- what a callee reads only: what the caller reads only, and its arguments -/
def argF (Γ : Gh) (H : Hp) (vs : List V) (rs : List Val) (p : Addr) : Prop := Γ.F p ∨ (H p ≠ none ∧ ∃ r, (V.ref p, r) ∈ vs.zip rs ∧ r.2 ≠ .fro)
section
variable {K : PySem.W.Frag} {Γ Γ0 : Gh} {σ : St} {H H0 H' : Hp} {s s0 : S} {vs : List V} {rs : List Val}
theorem Cell.toRepF {F F' : Addr → Prop} {p : Addr} {d : D} (h : Cell K F H p d) (hF : ∀ a, F a → F' a) (hp : F' p) : Rep K F' H (.ref p) d := by
  cases d with
  | lst ds =>
    obtain ⟨vs, h1, h2⟩ := h
    exact .lst hp h1 (RepL.mono hF (fun _ _ _ e => e) ds vs h2)
  | dic ds =>
    obtain ⟨vs, h1, h2⟩ := h
    exact .dic hp h1 (RepK.mono hF (fun _ _ _ e => e) ds vs h2)
  | _ => exact h.elim
theorem arg_rep (R : RS K Γ σ H s) {v : V} {r : Val} (m : (v, r) ∈ vs.zip rs) (h : RV K Γ σ H s v r) : Rep K (argF Γ H vs rs) H v r.1 := by
  obtain ⟨d, k⟩ := r
  have up : ∀ a, Γ.F a → argF Γ H vs rs a := fun a z => .inl z
  cases k with
  | fro => exact Rep.mono up (fun _ _ _ e => e) d v h
  | fre =>
    obtain ⟨⟨p, rfl, h1, h2, h3⟩, h4⟩ := h
    exact h3.toRepF up (.inr ⟨h3.trk, _, m, by simp⟩)
  | bor i =>
    obtain ⟨h1, h2 | h2⟩ := h
    · obtain ⟨v', e1, p, rfl, _, _, h3⟩ := R.own i d h2
      rw [h1] at e1; cases e1
      exact h3.toRepF up (.inr ⟨h3.trk, _, m, by simp⟩)
    · exact Rep.mono up (fun _ _ _ e => e) d v h2.1
theorem args_rep (R : RS K Γ σ H s) : ∀ {us : List V} {qs : List Val}, RVs K Γ σ H s us qs → (∀ p, p ∈ us.zip qs → p ∈ vs.zip rs) → RepL K (argF Γ H vs rs) H us (qs.map (·.1))
  | _, _, .nil, _ => .nil
  | _, _, .cons a _ h, sub => .cons (arg_rep R (sub _ List.mem_cons_self) a) (args_rep R h fun p m => sub p (List.mem_cons_of_mem _ m))
theorem arg_trk (R : RS K Γ σ H s) {p : Addr} (h : argF Γ H vs rs p) : H p ≠ none := by
  rcases h with h | ⟨h, _⟩
  · exact R.trk p h
  · exact h
/-- an argument's address that a slot owns: the slot is that of a borrowed argument -/
theorem arg_slot (R : RS K Γ σ H s) (rv : RVs K Γ σ H s vs rs) {p : Addr} {i : Nat} {d : D} (h : argF Γ H vs rs p) (e1 : s.ρ[i]? = some (.own d)) (e2 : σ[i]? = some (some (.ref p))) : ∃ d', (d', Kd.bor i) ∈ rs := by
  obtain ⟨v, q1, p', rfl, q2, q3, q4⟩ := R.own i d e1
  rw [e2] at q1; cases q1
  rcases h with h | ⟨_, ⟨d', k⟩, m, hk⟩
  · exact absurd h q2
  · have q := rv.get _ _ m
    cases k with
    | fro => exact absurd rfl hk
    | fre => exact absurd e2 (q.2 i d e1)
    | bor j =>
      obtain ⟨h1, h2⟩ := q
      by_cases ij : j = i
      · subst ij
        exact ⟨d', List.of_mem_zip m |>.2⟩
      · rcases h2 with h2 | h2
        · exact absurd (h1.trans e2.symm) (R.dist j i d' d h2 e1 ij)
        · obtain ⟨_, p', e, f⟩ := h2
          cases e
          exact absurd f q2
theorem S.frz_w (s : S) (i : Nat) : (s.frz i).w = s.w := by
  unfold S.frz
  split <;> rfl
theorem S.fz_w (s : S) (k : Kd) : (s.fz k).w = s.w := by
  cases k <;> first | rfl | exact S.frz_w s _
theorem S.fzs_w (rs : List Val) : ∀ s : S, (s.fzs rs).w = s.w := by
  induction rs with
  | nil => intro s; rfl
  | cons r rs ih => intro s; exact (ih _).trans (S.fz_w s r.2)
theorem S.frz_get (s : S) (i j : Nat) : (s.frz i).ρ[j]? = s.ρ[j]? ∨ ∃ d, s.ρ[j]? = some (.own d) ∧ i = j ∧ (s.frz i).ρ[j]? = some (.fro d) := by
  unfold S.frz
  cases q : s.ρ[i]? with
  | none => exact .inl rfl
  | some c =>
    cases c with
    | un => exact .inl rfl
    | fro d => exact .inl rfl
    | own d =>
      show (s.ρ.set i (.fro d))[j]? = _ ∨ ∃ d', _ ∧ i = j ∧ (s.ρ.set i (.fro d))[j]? = _
      by_cases e : i = j
      · subst e
        exact .inr ⟨d, q, rfl, List.getElem?_set_self (List.getElem?_eq_some_iff.mp q).1⟩
      · exact .inl (List.getElem?_set_ne e)
theorem S.frz_len (s : S) (i : Nat) : (s.frz i).ρ.length = s.ρ.length := by
  unfold S.frz
  split <;> simp [S.set]
theorem S.fz_get (s : S) (k : Kd) (j : Nat) : (s.fz k).ρ[j]? = s.ρ[j]? ∨ ∃ d, s.ρ[j]? = some (.own d) ∧ k = .bor j ∧ (s.fz k).ρ[j]? = some (.fro d) := by
  cases k with
  | fro => exact .inl rfl
  | fre => exact .inl rfl
  | bor i =>
    rcases s.frz_get i j with h | ⟨d, h1, h2, h3⟩
    · exact .inl h
    · subst h2; exact .inr ⟨d, h1, rfl, h3⟩
theorem S.fz_len (s : S) (k : Kd) : (s.fz k).ρ.length = s.ρ.length := by
  cases k <;> first | rfl | exact S.frz_len s _
theorem S.fzs_len (rs : List Val) : ∀ s : S, (s.fzs rs).ρ.length = s.ρ.length := by
  induction rs with
  | nil => intro s; rfl
  | cons r rs ih => intro s; exact (ih _).trans (S.fz_len s r.2)
/-- behind the freezing of borrowed arguments: a slot is as it was and not borrowed, or read only -/
theorem S.fzs_get (j : Nat) : ∀ (rs : List Val) (s : S), (s.fzs rs).ρ[j]? = s.ρ[j]? ∧ (∀ d, s.ρ[j]? = some (.own d) → ∀ d', (d', Kd.bor j) ∉ rs) ∨ ∃ d, s.ρ[j]? = some (.own d) ∧ (∃ d', (d', Kd.bor j) ∈ rs) ∧ (s.fzs rs).ρ[j]? = some (.fro d)
  | [], s => .inl ⟨rfl, fun _ _ _ h => by cases h⟩
  | r :: rs, s => by
    have ih := S.fzs_get j rs (s.fz r.2)
    rcases s.fz_get r.2 j with h | ⟨d, h1, h2, h3⟩
    · rw [h] at ih
      rcases ih with ⟨i1, i2⟩ | ⟨d, i1, ⟨d', i2⟩, i3⟩
      · by_cases hb : ∃ d, s.ρ[j]? = some (.own d)
        · obtain ⟨d, hd⟩ := hb
          refine .inl ⟨i1, fun d0 hd0 d' hm => ?_⟩
          rcases List.mem_cons.mp hm with e | hm
          · subst e
            have z : (s.frz j).ρ[j]? = s.ρ[j]? := h
            unfold S.frz at z
            rw [hd] at z
            have z : (s.ρ.set j (.fro d))[j]? = some (Cl.own d) := z
            rw [List.getElem?_set_self (List.getElem?_eq_some_iff.mp hd).1] at z
            cases z
          · exact i2 d0 hd0 d' hm
        · exact .inl ⟨i1, fun d0 hd0 => absurd ⟨d0, hd0⟩ hb⟩
      · exact .inr ⟨d, i1, ⟨d', List.mem_cons_of_mem _ i2⟩, i3⟩
    · rw [h3] at ih
      refine .inr ⟨d, h1, ⟨r.1, by rw [← h2]; exact List.mem_cons_self⟩, ?_⟩
      rcases ih with ⟨i1, _⟩ | ⟨d', i1, _⟩
      · exact i1
      · cases i1
/-- the caller's state behind a call whose outcome leans on no list or dict: nothing has changed for it -/
theorem call_keep (R0 : RS K Γ0 σ H0 s0) (st0 : Step Γ0 σ H0 s0 Γ H s) (R : RS K Γ σ H s) (rv : RVs K Γ σ H s vs rs) (fr : Freshs H0 vs rs) {F' : Addr → Prop} (h1 : ∀ p, argF Γ H vs rs p → F' p) (h2 : ∀ p, F' p → argF Γ H vs rs p ∨ H p = none) (h3 : ∀ p o, H p = some o → H' p = some o) (h4 : ∀ p, F' p → H' p ≠ none) :
    Step Γ0 σ H0 s0 { Γ with F := fun p => F' p ∧ ¬ SlotAt σ s p } H' s ∧ RS K { Γ with F := fun p => F' p ∧ ¬ SlotAt σ s p } σ H' s := by
  have up : ∀ p, Γ.F p → F' p ∧ ¬ SlotAt σ s p := fun p z => ⟨h1 p (.inl z), fun ⟨i, d, e1, e2⟩ => by
    obtain ⟨v, q1, p', rfl, q2, _⟩ := R.own i d e1
    rw [e2] at q1; cases q1
    exact q2 z⟩
  have newp : ∀ p, F' p ∧ ¬ SlotAt σ s p → Γ.F p ∨ H0 p = none := fun p ⟨z, ns⟩ => by
    rcases h2 p z with q | q
    · rcases q with q | ⟨_, ⟨d, k⟩, m, hk⟩
      · exact .inl q
      · have q := rv.get _ _ m
        cases k with
        | fro => exact absurd rfl hk
        | fre => exact .inr (fr _ _ m rfl p rfl)
        | bor i =>
          obtain ⟨e1, e2 | ⟨_, p', e, f⟩⟩ := q
          · exact absurd ⟨i, d, e2, e1⟩ ns
          · cases e; exact .inl f
    · exact .inr (st0.none_back q)
  refine ⟨⟨fun p z => up p (st0.mono p z), st0.e, st0.f0, fun p o e => h3 p o (st0.keep p o e), fun p z => ?_, st0.cells, st0.len⟩, ⟨R.len, fun i d e => ?_, fun i d e => ?_, R.dist, fun p o e => h3 p o (R.entry p o e), fun p z => h4 p z.1, fun p z => ?_, R.ws⟩⟩
  · rcases newp p z with q | q
    · exact st0.new p q
    · exact .inr (.inl q)
  · obtain ⟨v, q1, q2⟩ := R.fro i d e
    exact ⟨v, q1, Rep.mono up (fun p o _ z => h3 p o z) d v q2⟩
  · obtain ⟨v, q1, p, rfl, q2, q3, q4⟩ := R.own i d e
    refine ⟨_, q1, p, rfl, fun z => z.2 ⟨i, d, e, q1⟩, q3, ?_⟩
    cases d with
    | lst ds => obtain ⟨vs, a1, a2⟩ := q4; exact ⟨vs, h3 _ _ a1, RepL.mono up (fun p o _ z => h3 p o z) ds vs a2⟩
    | dic ds => obtain ⟨vs, a1, a2⟩ := q4; exact ⟨vs, h3 _ _ a1, RepK.mono up (fun p o _ z => h3 p o z) ds vs a2⟩
    | _ => exact q4.elim
  · rcases newp p z with q | q
    · exact R.fnew p q
    · refine .inr ?_
      show Γ.E p = none
      have e0 : Γ.E = Γ0.E := st0.e
      rw [e0]
      exact R0.newE q
/-- .. whose outcome may lean on borrowed arguments: these are read only from now on -/
theorem call_lose (R0 : RS K Γ0 σ H0 s0) (st0 : Step Γ0 σ H0 s0 Γ H s) (R : RS K Γ σ H s) (rv : RVs K Γ σ H s vs rs) (fr : Freshs H0 vs rs) {F' : Addr → Prop} (h1 : ∀ p, argF Γ H vs rs p → F' p) (h2 : ∀ p, F' p → argF Γ H vs rs p ∨ H p = none) (h3 : ∀ p o, H p = some o → H' p = some o) (h4 : ∀ p, F' p → H' p ≠ none) :
    Step Γ0 σ H0 s0 { Γ with F := F' } H' (s.fzs rs) ∧ RS K { Γ with F := F' } σ H' (s.fzs rs) := by
  have up : ∀ p, Γ.F p → F' p := fun p z => h1 p (.inl z)
  have newp : ∀ p, F' p → Γ.F p ∨ H0 p = none ∨ SlotAt σ s p := fun p z => by
    rcases h2 p z with q | q
    · rcases q with q | ⟨_, ⟨d, k⟩, m, hk⟩
      · exact .inl q
      · have q := rv.get _ _ m
        cases k with
        | fro => exact absurd rfl hk
        | fre => exact .inr (.inl (fr _ _ m rfl p rfl))
        | bor i =>
          obtain ⟨e1, e2 | ⟨_, p', e, f⟩⟩ := q
          · exact .inr (.inr ⟨i, d, e2, e1⟩)
          · cases e; exact .inl f
    · exact .inr (.inl (st0.none_back q))
  have cellUp : ∀ {p d}, Cell K Γ.F H p d → Cell K F' H' p d := fun {p d} q4 => by
    cases d with
    | lst ds => obtain ⟨vs, a1, a2⟩ := q4; exact ⟨vs, h3 _ _ a1, RepL.mono up (fun p o _ z => h3 p o z) ds vs a2⟩
    | dic ds => obtain ⟨vs, a1, a2⟩ := q4; exact ⟨vs, h3 _ _ a1, RepK.mono up (fun p o _ z => h3 p o z) ds vs a2⟩
    | _ => exact q4.elim
  refine ⟨⟨fun p z => up p (st0.mono p z), st0.e, st0.f0, fun p o e => h3 p o (st0.keep p o e), fun p z => ?_, fun i c e => ?_, (S.fzs_len rs s).trans st0.len⟩, ⟨(S.fzs_len rs s).trans R.len, fun i d e => ?_, fun i d e => ?_, fun i j di dj e1 e2 ne => ?_, fun p o e => h3 p o (R.entry p o e), h4, fun p z => ?_, (S.fzs_w rs s).trans R.ws⟩⟩
  · rcases newp p z with q | q | ⟨i, d, q1, q2⟩
    · exact st0.new p q
    · exact .inr (.inl q)
    · exact .inr (.inr ⟨i, d, st0.ownBack q1, q2⟩)
  · rcases st0.cells i c e with q | ⟨d, q1, q2⟩
    · rcases S.fzs_get i rs s with ⟨z1, z2⟩ | ⟨d, z1, _, z3⟩
      · exact .inl (z1.trans q)
      · rw [q] at z1; cases z1
        exact .inr ⟨d, rfl, z3⟩
    · rcases S.fzs_get i rs s with ⟨z1, z2⟩ | ⟨d', z1, _, z3⟩
      · exact .inr ⟨d, q1, z1.trans q2⟩
      · rw [q2] at z1; cases z1
  · rcases S.fzs_get i rs s with ⟨z1, z2⟩ | ⟨d', z1, ⟨d2, z2⟩, z3⟩
    · rw [z1] at e
      obtain ⟨v, q1, q2⟩ := R.fro i d e
      exact ⟨v, q1, Rep.mono up (fun p o _ z => h3 p o z) d v q2⟩
    · rw [z3] at e; cases e
      obtain ⟨v, q1, p, rfl, q2, q3, q4⟩ := R.own i _ z1
      refine ⟨_, q1, (cellUp q4).toRepF (fun _ z => z) (h1 p (.inr ⟨q4.trk, ?_⟩))⟩
      -- the borrowed argument stands in the list of arguments
      have key : ∀ {us : List V} {qs : List Val}, RVs K Γ σ H s us qs → (d2, Kd.bor i) ∈ qs → ∃ r, (V.ref p, r) ∈ us.zip qs ∧ r.2 ≠ .fro := fun {us qs} x m => by
        induction x with
        | nil => cases m
        | @cons v vs r rs a _ h ih =>
          rcases List.mem_cons.mp m with e | m
          · subst e
            have : v = .ref p := by
              have := a.1
              rw [q1] at this
              exact (Option.some.inj (Option.some.inj this)).symm
            subst this
            exact ⟨_, List.mem_cons_self, by simp⟩
          · obtain ⟨r, m', n⟩ := ih m
            exact ⟨r, List.mem_cons_of_mem _ m', n⟩
      exact key rv z2
  · rcases S.fzs_get i rs s with ⟨z1, z2⟩ | ⟨d', z1, _, z3⟩
    · rw [z1] at e
      obtain ⟨v, q1, p, rfl, q2, q3, q4⟩ := R.own i d e
      refine ⟨_, q1, p, rfl, fun z => ?_, q3, cellUp q4⟩
      rcases h2 p z with q | q
      · obtain ⟨d', m⟩ := arg_slot R rv q e q1
        exact z2 d e d' m
      · exact q4.trk q
    · rw [z3] at e; cases e
  · have back : ∀ {i : Nat} {d : D}, (s.fzs rs).ρ[i]? = some (Cl.own d) → s.ρ[i]? = some (Cl.own d) := fun {i d} e => by
      rcases S.fzs_get i rs s with ⟨z1, z2⟩ | ⟨d', z1, _, z3⟩
      · rw [← z1]; exact e
      · rw [z3] at e; cases e
    exact R.dist i j di dj (back e1) (back e2) ne
  · rcases newp p z with q | q | ⟨i, d, q1, q2⟩
    · exact R.fnew p q
    · refine .inr ?_
      show Γ.E p = none
      have e0 : Γ.E = Γ0.E := st0.e
      rw [e0]
      exact R0.newE q
    · obtain ⟨v, z1, p', rfl, _, z3, _⟩ := R.own i d q1
      rw [q2] at z1; cases z1
      exact .inr z3
end
theorem S.eta (s : S) (h : s.w = []) : ({ s with w := [] } : S) = s := by
  cases s
  cases h
  rfl
/-- behind a call -/
theorem after_call {Γ Γ0 : Gh} {σ : St} {H H0 : Hp} {s s0 : S} {vs : List V} {rs : List Val} {k ar : Nat} {Q : VK} (R0 : RS X.K Γ0 σ H0 s0) (st0 : Step Γ0 σ H0 s0 Γ H s) (R : RS X.K Γ σ H s) (rv : RVs X.K Γ σ H s vs rs) (fr : Freshs H0 vs rs) (hl : vs.length = ar)
    (w : WE X.K W ca Γ0 σ H0 s0 Q (afterCall rs s (C k (rs.map (·.1)) s.w))) : specF ca C ar k X.K vs H Q (L2.WE W σ) := by
  refine ⟨hl, argF Γ H vs rs, rs.map (·.1), fun p h => arg_trk R h, args_rep R rv fun _ m => m, ?_⟩
  rw [R.ws] at w
  cases q : C k (rs.map (·.1)) [] with
  | stuck => rw [q] at w; exact w
  | exc c w' =>
    rw [q] at w
    intro F' H' h1 h2 h3 h4 hw
    subst hw
    obtain ⟨st, R'⟩ := call_keep R0 st0 R rv fr h1 h2 h3 h4
    have w : WE X.K W ca Γ0 σ H0 s0 Q (.exc c { s with w := [] }) := w
    rw [S.eta s R.ws] at w
    exact w _ _ st R'
  | ok d own w' =>
    rw [q] at w
    intro F' H' v h1 h2 h3 h4 hw hv
    subst hw
    have w : WE X.K W ca Γ0 σ H0 s0 Q (.ok (d, if own then .fre else .fro) { (if DL.imm d then s else s.fzs rs) with w := [] }) := w
    by_cases hi : DL.imm d = true
    · obtain ⟨st, R'⟩ := call_keep R0 st0 R rv fr h1 h2 h3 h4
      rw [if_pos hi, S.eta s R.ws] at w
      cases own with
      | true =>
        obtain ⟨p, rfl, _, _, c⟩ := hv
        cases d <;> first | (cases hi; done) | exact c.elim
      | false =>
        refine w _ _ st R' v (Rep.imm (fun a us z e => ⟨z, fun ⟨i, d', e1, e2⟩ => ?_⟩) d v hv hi) fun e => nomatch e
        obtain ⟨v', q1, p', rfl, _, _, q4⟩ := R.own i d' e1
        rw [e2] at q1; cases q1
        cases d' with
        | lst ds => obtain ⟨vs, a1, a2⟩ := q4; rw [h3 _ _ a1] at e; cases e
        | dic ds => obtain ⟨vs, a1, a2⟩ := q4; rw [h3 _ _ a1] at e; cases e
        | _ => exact q4.elim
    · obtain ⟨st, R'⟩ := call_lose R0 st0 R rv fr h1 h2 h3 h4
      rw [if_neg hi, S.eta _ ((S.fzs_w rs s).trans R.ws)] at w
      cases own with
      | false => exact w _ _ st R' v hv fun e => nomatch e
      | true =>
        obtain ⟨p, rfl, n1, n2, c⟩ := hv
        refine w _ _ st R' _ ⟨⟨p, rfl, n1, R.newE n2, c⟩, fun i d' e e2 => ?_⟩ fun _ p' e => by cases e; exact st0.none_back n2
        have e' : s.ρ[i]? = some (.own d') := by
          rcases S.fzs_get i rs s with ⟨z1, z2⟩ | ⟨d', z1, _, z3⟩
          · rw [← z1]; exact e
          · rw [z3] at e; cases e
        obtain ⟨v', q1, p', rfl, _, _, q4⟩ := R.own i d' e'
        rw [e2] at q1; cases q1
        exact q4.trk n2
theorem RVs.length {K : PySem.W.Frag} {Γ : Gh} {σ : St} {H : Hp} {s : S} : ∀ {vs : List V} {rs : List Val}, RVs K Γ σ H s vs rs → vs.length = rs.length
  | _, _, .nil => rfl
  | _, _, .cons _ _ h => congrArg (· + 1) h.length
def DEs.len : DEs → Nat
  | .nil => 0
  | .cons _ r => r.len + 1
theorem evalEs_len (C : Call) : ∀ (ds : DEs) (s : S) rs s', evalEs C ds s = .ok rs s' → rs.length = ds.len
  | .nil, s, rs, s', h => by simp only [evalEs] at h; cases h; rfl
  | .cons e es, s, rs, s', h => by
    simp only [evalEs] at h
    cases q : evalE C e s with
    | ok x s1 =>
      rw [q] at h
      have h : (evalEs C es s1).bind (fun xs s => .ok (x :: xs) s) = .ok rs s' := h
      cases q2 : evalEs C es s1 with
      | ok xs s2 =>
        rw [q2] at h
        cases h
        show xs.length + 1 = es.len + 1
        rw [evalEs_len C es s1 xs _ q2]
      | exc k s3 => rw [q2] at h; cases h
      | stuck => rw [q2] at h; cases h
    | exc k s1 => rw [q] at h; cases h
    | stuck => rw [q] at h; cases h
theorem c_call {n k ar : Nat} {f : Addr} {fd : FuncData} {ps : List Str} {x : Str} {p : Pos} {ds : DEs} {es : List Expr} (tk : Takes X W) (F : FnOk X.prog X.w X.K X.mg X.base (L2.CX X.prog X.w) n f fd ps (specF ca C ar k X.K)) (hr : Room n X.A) (hg : Gl X x) (hm : X.mg x = some (.ref f)) (hk : PySem.W.keepIn X.K (.ref f) = true) (hb : Binds X.K fd ps [])
    (hd : (x == ("__debug__" : Str)) = false) (hA : SA C ca X W ds (e :: es)) (hlen : ds.len = ar) (hs : starEach (e :: es) X.env = (false, eval e X.env) :: starEach es X.env) (hpl : (backTo pos (starEach es X.env)).any (·.1) = false) :
    SE C ca X W (.call k ds) (.Call (.Name x p) (e :: es) [] pos) := by
  obtain ⟨t, pt, i⟩ := hA.ex
  refine ⟨_, pe_callS (E := fun σ => L2.WE W σ) F hr hg hm hk hb (fun σ => passAt tk σ) pt hd hs hpl, fun Γ σ H s Q R h => ?_⟩
  simp only [evalE] at h
  show t σ H fun vs H1 => specF ca C ar k X.K vs H1 Q (L2.WE W σ)
  cases q : evalEs C ds s with
  | stuck => rw [q] at h; exact h.elim
  | exc c s' => rw [q] at h; exact i Γ σ H s _ R (by rw [q]; exact h)
  | ok rs s1 =>
    rw [q] at h
    refine i Γ σ H s _ R ?_
    rw [q]
    intro Γ1 H1 st1 R1 vs rv fr
    exact after_call R st1 R1 rv fr (by rw [rv.length, evalEs_len C ds s rs s1 q, hlen]) h
theorem c_call0 {n k : Nat} {f : Addr} {fd : FuncData} {ps : List Str} {x : Str} {p : Pos} (tk : Takes X W) (F : FnOk X.prog X.w X.K X.mg X.base (L2.CX X.prog X.w) n f fd ps (specF ca C 0 k X.K)) (hr : Room n X.A) (hg : Gl X x) (hm : X.mg x = some (.ref f)) (hk : PySem.W.keepIn X.K (.ref f) = true) (hb : Binds X.K fd ps [])
    (hd : (x == ("__debug__" : Str)) = false) : SE C ca X W (.call k .nil) (.Call (.Name x p) [] [] pos) := by
  refine ⟨_, pe_callS0 (E := fun σ => L2.WE W σ) F hr hg hm hk hb (fun σ => passAt tk σ) hd, fun Γ σ H s Q R h => ?_⟩
  simp only [evalE, evalEs] at h
  exact after_call (rs := []) R .refl R .nil (fun _ _ m => by cases m) rfl h
end
end DL

/-! DL7: what loops and comprehensions walk; comprehensions. -/
namespace DL
open PySem L2

/-- the iterator J draws the data ds, while what is read only stays -/
structure Draws (K : PySem.W.Frag) (J : It) (F0 : Addr → Prop) (H0 : Hp) (ds : List D) : Prop where
  go : ∀ (i : Nat) H, (∀ a o, F0 a → H0 a = some o → H a = some o) → i < ds.length → J.go i H
  stop : ∀ H, (∀ a o, F0 a → H0 a = some o → H a = some o) → J.stop ds.length H
  yld : ∀ (i : Nat) H v H' (F : Addr → Prop), (∀ a o, F0 a → H0 a = some o → H a = some o) → (∀ a, F0 a → F a) → J.yld i H v H' → i < ds.length → ∃ d, ds[i]? = some d ∧
    ((H' = H ∧ Rep K F H v d) ∨ ∃ T vs es, v = .ref T ∧ H T = none ∧ H' = upd H T (.tup vs) ∧ d = .tup es ∧ RepL K F H vs es)
section
variable {K : PySem.W.Frag} {F0 : Addr → Prop} {H0 : Hp}
theorem draws_list {a : Addr} {vs : List V} {ds : List D} (f : F0 a) (e : H0 a = some (.lst vs)) (r : RepL K F0 H0 vs ds) : Draws K (Itl K a) F0 H0 ds where
  go := fun i H kp hi => ⟨vs, vs[i]'(by rw [r.length]; exact hi), SqL.of (kp _ _ f e), List.getElem?_eq_getElem _⟩
  stop := fun H kp => ⟨vs, SqL.of (kp _ _ f e), Nat.le_of_eq r.length⟩
  yld := fun i H v H' F kp up ⟨eH, y⟩ hi => by
    obtain ⟨d, h1, h2⟩ := r.get' (y vs (SqL.of (kp _ _ f e)))
    subst eH
    exact ⟨d, h1, .inl ⟨rfl, Rep.mono up (fun a o z q => kp a o z q) d v h2⟩⟩
theorem draws_tup {a : Addr} {vs : List V} {ds : List D} (f : F0 a) (e : H0 a = some (.tup vs)) (r : RepL K F0 H0 vs ds) : Draws K (Itt K a) F0 H0 ds where
  go := fun i H kp hi => ⟨vs, vs[i]'(by rw [r.length]; exact hi), SqT.of (kp _ _ f e), List.getElem?_eq_getElem _⟩
  stop := fun H kp => ⟨vs, SqT.of (kp _ _ f e), Nat.le_of_eq r.length⟩
  yld := fun i H v H' F kp up ⟨eH, y⟩ hi => by
    obtain ⟨d, h1, h2⟩ := r.get' (y vs (SqT.of (kp _ _ f e)))
    subst eH
    exact ⟨d, h1, .inl ⟨rfl, Rep.mono up (fun a o z q => kp a o z q) d v h2⟩⟩
theorem draws_rng {lo : Int} {n : Nat} : Draws K (Itr lo n) F0 H0 ((List.range n).map fun (i : Nat) => D.int (lo + i)) where
  go := fun i H kp hi => by show i < n; simpa using hi
  stop := fun H kp => by show n ≤ _; simp
  yld := fun i H v H' F kp up ⟨eH, y⟩ hi => by
    subst eH
    subst y
    have hi' : i < n := by simpa using hi
    exact ⟨.int (lo + i), by simp [hi'], .inl ⟨rfl, .int _⟩⟩
theorem enumD_get : ∀ (ds : List D) (k : Int) (i : Nat), (enumD k ds)[i]? = (ds[i]?).map fun d => .tup [.int (k + i), d]
  | [], k, i => by simp [enumD]
  | d :: ds, k, 0 => by simp [enumD]
  | d :: ds, k, i + 1 => by
    rw [enumD, List.getElem?_cons_succ, List.getElem?_cons_succ, enumD_get ds (k + 1) i]
    have : k + 1 + (i : Int) = k + ((i + 1 : Nat) : Int) := by omega
    rw [this]
theorem enumD_len : ∀ (ds : List D) (k : Int), (enumD k ds).length = ds.length
  | [], _ => rfl
  | d :: ds, k => congrArg (· + 1) (enumD_len ds (k + 1))
theorem draws_enum {a : Addr} {vs : List V} {ds : List D} (f : F0 a) (e : H0 a = some (.lst vs)) (r : RepL K F0 H0 vs ds) : Draws K (Ite K a) F0 H0 (enumD 0 ds) where
  go := fun i H kp hi => ⟨vs, vs[i]'(by rw [r.length]; rw [enumD_len] at hi; exact hi), SqL.of (kp _ _ f e), List.getElem?_eq_getElem _⟩
  stop := fun H kp => ⟨vs, SqL.of (kp _ _ f e), by rw [enumD_len]; exact Nat.le_of_eq r.length⟩
  yld := fun i H v H' F kp up ⟨T, x, ev, eT, eH, y⟩ hi => by
    obtain ⟨d, h1, h2⟩ := r.get' (y vs (SqL.of (kp _ _ f e)))
    refine ⟨.tup [.int i, d], by rw [enumD_get, h1]; simp, .inr ⟨T, _, _, ev, eT, eH, rfl, .cons (.int _) (.cons (Rep.mono up (fun a o z q => kp a o z q) d x h2) .nil)⟩⟩
theorem zipD_get : ∀ (as bs : List D) (i : Nat) a b, as[i]? = some a → bs[i]? = some b → (zipD as bs)[i]? = some (.tup [a, b])
  | [], _, i, _, _, h, _ => by simp at h
  | _ :: _, [], i, _, _, _, h => by simp at h
  | a :: as, b :: bs, 0, _, _, h, h' => by simp at h h'; subst h; subst h'; rfl
  | a :: as, b :: bs, i + 1, _, _, h, h' => by
    rw [zipD, List.getElem?_cons_succ]
    exact zipD_get as bs i _ _ (by simpa using h) (by simpa using h')
theorem zipD_len : ∀ (as bs : List D), (zipD as bs).length = min as.length bs.length
  | [], _ => by simp [zipD]
  | _ :: _, [] => by simp [zipD]
  | a :: as, b :: bs => by
    show (zipD as bs).length + 1 = _
    rw [zipD_len as bs, List.length_cons, List.length_cons]
    omega
theorem draws_zipL {a b : Addr} {vs ws : List V} {ds es : List D} (f : F0 a) (e : H0 a = some (.lst vs)) (r : RepL K F0 H0 vs ds) (f' : F0 b) (e' : H0 b = some (.lst ws)) (r' : RepL K F0 H0 ws es) : Draws K (Itz K a b) F0 H0 (zipD ds es) where
  go := fun i H kp hi => by
    rw [zipD_len] at hi
    exact ⟨vs, ws, vs[i]'(by rw [r.length]; omega), ws[i]'(by rw [r'.length]; omega), SqL.of (kp _ _ f e), SqL.of (kp _ _ f' e'), List.getElem?_eq_getElem _, List.getElem?_eq_getElem _⟩
  stop := fun H kp => ⟨vs, ws, SqL.of (kp _ _ f e), SqL.of (kp _ _ f' e'), by rw [zipD_len, r.length, r'.length]; omega⟩
  yld := fun i H v H' F kp up ⟨T, x, y, ev, eT, eH, h1, h2⟩ hi => by
    obtain ⟨d, g1, g2⟩ := r.get' (h1 vs (SqL.of (kp _ _ f e)))
    obtain ⟨d', g1', g2'⟩ := r'.get' (h2 ws (SqL.of (kp _ _ f' e')))
    exact ⟨_, zipD_get _ _ _ _ _ g1 g1', .inr ⟨T, _, _, ev, eT, eH, rfl, .cons (Rep.mono up (fun a o z q => kp a o z q) d x g2) (.cons (Rep.mono up (fun a o z q => kp a o z q) d' y g2') .nil)⟩⟩
theorem draws_zipT {a b : Addr} {vs ws : List V} {ds es : List D} (f : F0 a) (e : H0 a = some (.tup vs)) (r : RepL K F0 H0 vs ds) (f' : F0 b) (e' : H0 b = some (.tup ws)) (r' : RepL K F0 H0 ws es) : Draws K (RZ.ItzT K a b) F0 H0 (zipD ds es) where
  go := fun i H kp hi => by
    rw [zipD_len] at hi
    exact ⟨vs, ws, vs[i]'(by rw [r.length]; omega), ws[i]'(by rw [r'.length]; omega), SqT.of (kp _ _ f e), SqT.of (kp _ _ f' e'), List.getElem?_eq_getElem _, List.getElem?_eq_getElem _⟩
  stop := fun H kp => ⟨vs, ws, SqT.of (kp _ _ f e), SqT.of (kp _ _ f' e'), by rw [zipD_len, r.length, r'.length]; omega⟩
  yld := fun i H v H' F kp up ⟨T, x, y, ev, eT, eH, h1, h2⟩ hi => by
    obtain ⟨d, g1, g2⟩ := r.get' (h1 vs (SqT.of (kp _ _ f e)))
    obtain ⟨d', g1', g2'⟩ := r'.get' (h2 ws (SqT.of (kp _ _ f' e')))
    exact ⟨_, zipD_get _ _ _ _ _ g1 g1', .inr ⟨T, _, _, ev, eT, eH, rfl, .cons (Rep.mono up (fun a o z q => kp a o z q) d x g2) (.cons (Rep.mono up (fun a o z q => kp a o z q) d' y g2') .nil)⟩⟩
end

/-- over a list or a tuple -/
theorem pi_seq {X : Cx} {tg l : Expr} {tl : TE} (hl : PE X l tl) : PI X tg l (fun σ H R => tl σ H fun x H1 => (∃ a, x = .ref a ∧ (∃ xs, SqL X.K H1 a xs) ∧ R (Itl X.K a) H1) ∨ ∃ a, x = .ref a ∧ (∃ xs, SqT X.K H1 a xs) ∧ R (Itt X.K a) H1) := by
  refine ⟨fun pins s σ H R I h => ?_⟩
  refine thn (hl.run pins s σ H _ I h) fun v s1 ⟨x, H1, I1, r1, q1⟩ => ?_
  rcases q1 with ⟨a, e, ⟨xs, hq⟩, q⟩ | ⟨a, e, ⟨xs, hq⟩, q⟩
  · subst e
    cases r1
    obtain ⟨its, rv, p, hz⟩ := I1.list hq
    refine wpAny_pyIter_list p.isList ?_
    refine ⟨s1.heap.objs.size, [s1.heap.objs.size], _, _, H1, rfl, I1.kept (t' := s1.toks) fun b o e => Heap.get?_push_of_some _ e, turn_list a _, ⟨_, Heap.get?_push_size _ rfl, rfl, rfl⟩, fun b hb => ?_, q⟩
    have e : b = s1.heap.objs.size := by simpa using hb
    subst e
    exact I1.fpOk (Nat.le_refl _) (I1.hok.fresh (Nat.le_refl _))
  · subst e
    cases r1
    obtain ⟨its, rv, p, hz⟩ := I1.tuple hq
    refine wpAny_pyIter_tuple (show s1.heap.IsTuple a its.toArray from p) ?_
    refine ⟨s1.heap.objs.size, [s1.heap.objs.size], _, _, H1, rfl, I1.kept (t' := s1.toks) fun b o e => Heap.get?_push_of_some _ e, turn_tuple a _, ⟨_, Heap.get?_push_size _ rfl, rfl, rfl⟩, fun b hb => ?_, q⟩
    have e : b = s1.heap.objs.size := by simpa using hb
    subst e
    exact I1.fpOk (Nat.le_refl _) (I1.hok.fresh (Nat.le_refl _))

structure SI (C : Call) (ca : CA) (X : Cx) (W : WX) (src : DSrc) (tg it : Expr) : Prop where
  ex : ∃ wi : TI, PI X tg it wi ∧ ∀ Γ σ H s (Rq : It → Hp → Prop), RS X.K Γ σ H s → WR X.K W ca Γ σ H s (fun Γ' H' _ ds => ∀ J, Draws X.K J Γ'.F H' ds → Rq J H') (evalS C src s) → wi σ H Rq
section
variable {C : Call} {ca : CA} {X : Cx} {W : WX} {a b c : DE} {e e1 e2 e3 tg : Expr} {pos : Pos}
theorem si_seq (ha : SE C ca X W a e) : SI C ca X W (.seq a) tg e := by
  obtain ⟨t, p, i⟩ := ha.ex
  refine ⟨_, pi_seq p, fun Γ σ H s Rq R h => ?_⟩
  simp only [evalS] at h
  refine i Γ σ H s _ R (WR.bind h fun Γ1 H1 s1 x st1 R1 w v rv fr => ?_)
  obtain ⟨Γ2, st2, R2, rp⟩ := R1.freeze st1 rv fr
  obtain ⟨d, kd⟩ := x
  cases d with
  | lst ds =>
    cases rp with
    | lst f e r => exact .inl ⟨_, rfl, ⟨_, SqL.of e⟩, w _ _ st2 R2 _ (draws_list f e r)⟩
  | tup ds =>
    cases rp with
    | tup f e r => exact .inr ⟨_, rfl, ⟨_, SqT.of e⟩, w _ _ st2 R2 _ (draws_tup f e r)⟩
  | _ => exact w.elim
theorem rngD_eq {lo hi : Int} {ds : List D} (h : rngD lo hi = some ds) : (-(2 ^ 62) ≤ lo ∧ lo < 2 ^ 62 ∧ -(2 ^ 62) ≤ hi ∧ hi < 2 ^ 62) ∧ ds = (List.range (hi - lo).toNat).map fun (i : Nat) => D.int (lo + i) := by
  unfold rngD at h
  split at h
  · rename_i hc
    cases h
    exact ⟨by omega, rfl⟩
  · cases h
theorem si_rng1 {p : Pos} (ha : SE C ca X W a e) (hg : Gl X "range") (hm : X.mg "range" = none) (hs : starEach [e] X.env = [(false, eval e X.env)]) : SI C ca X W (.rng1 a) tg (.Call (.Name "range" p) [e] [] pos) := by
  obtain ⟨t, pt, i⟩ := ha.ex
  refine ⟨_, pi_range1 hg hm (pa_cons pt pa_nil hs) hs, fun Γ σ H s Rq R h => ?_⟩
  simp only [evalS] at h
  refine i Γ σ H s _ R (WR.bind h fun Γ1 H1 s1 x st1 R1 w v rv fr => ?_)
  obtain ⟨d, kd⟩ := x
  cases d with
  | int n =>
    cases q : rngD 0 n with
    | none => simp only [intOf, Option.bind, q] at w; exact w.elim
    | some ds =>
      simp only [intOf, Option.bind, q] at w
      obtain ⟨⟨_, _, h3, h4⟩, rfl⟩ := rngD_eq q
      refine ⟨n, by rw [(rv.cont R1).int], h3, h4, w _ _ st1 R1 _ ?_⟩
      have e : (n - 0).toNat = n.toNat := by omega
      rw [e]
      exact draws_rng
  | _ => exact w.elim
theorem si_rng2 {p : Pos} (ha : SE C ca X W a e1) (hb : SE C ca X W b e2) (hg : Gl X "range") (hm : X.mg "range" = none) (hs : starEach [e1, e2] X.env = [(false, eval e1 X.env), (false, eval e2 X.env)]) (hs2 : starEach [e2] X.env = [(false, eval e2 X.env)]) :
    SI C ca X W (.rng2 a b) tg (.Call (.Name "range" p) [e1, e2] [] pos) := by
  obtain ⟨t, pt, i⟩ := ha.ex
  obtain ⟨u, pu, j⟩ := hb.ex
  refine ⟨_, pi_range2 hg hm (pa_cons pt (pa_cons pu pa_nil hs2) (by rw [hs, hs2])) hs hs2, fun Γ σ H s Rq R h => ?_⟩
  simp only [evalS] at h
  refine i Γ σ H s _ R (WR.bind h fun Γ1 H1 s1 x st1 R1 w1 v rv fr => j Γ1 σ H1 s1 _ R1 (WR.bind (WR.shift st1 w1 fun _ _ _ _ _ _ z => z) fun Γ2 H2 s2 y st2 R2 w v' rv' fr' => ?_))
  have cx := (rv.cont R1).step st2
  have cy := rv'.cont R2
  obtain ⟨d, kd⟩ := x
  obtain ⟨d', kd'⟩ := y
  cases d with
  | int m =>
    cases d' with
    | int n =>
      cases q : rngD m n with
      | none => simp only [intOf, Option.bind, q] at w; exact w.elim
      | some ds =>
        simp only [intOf, Option.bind, q] at w
        obtain ⟨h4, rfl⟩ := rngD_eq q
        exact ⟨m, n, by rw [cx.int, cy.int], h4, w _ _ st2 R2 _ draws_rng⟩
    | _ => exact w.elim
  | _ => exact w.elim
theorem si_enum {p tp : Pos} {elts : List Expr} {kk : Nat} (ha : SE C ca X W a e) (hg : Gl X "enumerate") (hm : X.mg "enumerate" = none) (hs : starEach [e] X.env = [(false, eval e X.env)]) : SI C ca X W (.enum a) (.Tuple elts kk tp) (.Call (.Name "enumerate" p) [e] [] pos) := by
  obtain ⟨t, pt, i⟩ := ha.ex
  refine ⟨_, pi_enum hg hm (pa_cons pt pa_nil hs) hs, fun Γ σ H s Rq R h => ?_⟩
  simp only [evalS] at h
  refine i Γ σ H s _ R (WR.bind h fun Γ1 H1 s1 x st1 R1 w v rv fr => ?_)
  obtain ⟨Γ2, st2, R2, rp⟩ := R1.freeze st1 rv fr
  obtain ⟨d, kd⟩ := x
  cases d with
  | lst ds =>
    cases rp with
    | lst f e r => exact ⟨_, _, rfl, SqL.of e, w _ _ st2 R2 _ (draws_enum f e r)⟩
  | _ => exact w.elim
theorem si_zip {p tp : Pos} {elts : List Expr} {kk : Nat} (ha : SE C ca X W a e1) (hb : SE C ca X W b e2) (hg : Gl X "zip") (hm : X.mg "zip" = none) (hs : starEach [e1, e2] X.env = (false, eval e1 X.env) :: starEach [e2] X.env) (hs2 : starEach [e2] X.env = [(false, eval e2 X.env)]) (hpl : (backTo pos (starEach [e2] X.env)).any (·.1) = false) :
    SI C ca X W (.zip a b) (.Tuple elts kk tp) (.Call (.Name "zip" p) [e1, e2] [] pos) := by
  obtain ⟨t, pt, i⟩ := ha.ex
  obtain ⟨u, pu, j⟩ := hb.ex
  refine ⟨_, RZ.pi_zipA hg hm (pa_cons pt (pa_cons pu pa_nil hs2) hs) hs hpl, fun Γ σ H s Rq R h => ?_⟩
  simp only [evalS] at h
  refine i Γ σ H s _ R (WR.bind h fun Γ1 H1 s1 x st1 R1 w1 v rv fr => ?_)
  obtain ⟨Γ2, st2, R2, rp⟩ := R1.freeze st1 rv fr
  refine j Γ2 σ H1 (s1.fz x.2) _ R2 (WR.bind (WR.shift st2 w1 fun _ _ _ _ _ _ z => z) fun Γ3 H3 s3 y st3 R3 w v' rv' fr' => ?_)
  obtain ⟨Γ4, st4, R4, rp'⟩ := R3.freeze st3 rv' fr'
  have rp : Rep X.K Γ4.F H3 v x.1 := rp.step st4
  obtain ⟨d, kd⟩ := x
  obtain ⟨d', kd'⟩ := y
  cases d with
  | lst ds =>
    cases d' with
    | lst es =>
      cases rp with
      | lst f e r =>
        cases rp' with
        | lst f' e' r' => exact ⟨_, _, _, _, rfl, .inl ⟨SqL.of e, SqL.of e', w _ _ st4 R4 _ (draws_zipL f e r f' e' r')⟩⟩
    | _ => exact w.elim
  | tup ds =>
    cases d' with
    | tup es =>
      cases rp with
      | tup f e r =>
        cases rp' with
        | tup f' e' r' => exact ⟨_, _, _, _, rfl, .inr ⟨SqT.of e, SqT.of e', w _ _ st4 R4 _ (draws_zipT f e r f' e' r')⟩⟩
    | _ => exact w.elim
  | _ => exact w.elim
end
end DL

/-! DL8: targets, comprehensions. -/
namespace DL
open PySem L2

/-- the readings of my syntax, the same in all contexts over K -/
def tE (C : Call) (ca : CA) (K : PySem.W.Frag) (W : WX) (d : DE) : TE := fun σ H Q => ∃ Γ s, RS K Γ σ H s ∧ WE K W ca Γ σ H s Q (evalE C d s)
def tT (C : Call) (ca : CA) (K : PySem.W.Frag) (W : WX) (d : DE) : TT := fun σ H Q => ∃ Γ s, RS K Γ σ H s ∧ WT K W ca Γ σ H s Q (asBl (evalE C d s))
section
variable {C : Call} {ca : CA} {X : Cx} {W : WX} {a b c : DE} {e e1 e2 e3 tg : Expr} {pos : Pos}
theorem SE.pe (h : SE C ca X W a e) : PE X e (tE C ca X.K W a) := by
  obtain ⟨t, p, i⟩ := h.ex
  exact ⟨fun pins s σ H Q I ⟨Γ, s', R, w⟩ => p.run pins s σ H Q I (i Γ σ H s' Q R w)⟩
theorem ST.pt (h : ST C ca X W a e) : PT X e (tT C ca X.K W a) := by
  obtain ⟨t, p, i⟩ := h.ex
  exact ⟨fun pins s σ H Q I ⟨Γ, s', R, w⟩ => p.run pins s σ H Q I (i Γ σ H s' Q R w)⟩

/-! targets -/
def gNames : List Nat → TGs
  | [] => gNil
  | i :: is => gCons (gName i) (gNames is)
def gOf (K : PySem.W.Frag) : Tgt → TG
  | .nm i => gName i
  | .tp is => gTup K is.length (gNames is)
def Tgt.slots : Tgt → List Nat
  | .nm i => [i]
  | .tp is => is
theorem RS.set {K : PySem.W.Frag} {Γ : Gh} {σ : St} {H : Hp} {s : S} (R : RS K Γ σ H s) {v : V} {d : D} (i : Nat) (r : Rep K Γ.F H v d) : RS K Γ (σ.set i (some v)) H (s.set i (.fro d)) := by
  refine ⟨by show (s.ρ.set i _).length = _; rw [List.length_set, List.length_set]; exact R.len, fun j d' z => ?_, fun j d' z => ?_, fun j k dj dk z1 z2 ne => ?_, R.entry, R.trk, R.fnew, R.ws⟩
  · rcases getElem?_set_of z with ⟨z1, z2⟩ | ⟨z1, z2⟩
    · cases z2; subst z1
      have hi : i < σ.length := by
        rw [← R.len]
        have := (List.getElem?_eq_some_iff.mp z).1
        simpa [S.set] using this
      exact ⟨v, List.getElem?_set_self hi, r⟩
    · obtain ⟨w, h1, h2⟩ := R.fro j d' z2
      exact ⟨w, by rw [List.getElem?_set_ne z1]; exact h1, h2⟩
  · rcases getElem?_set_of z with ⟨z1, z2⟩ | ⟨z1, z2⟩
    · cases z2
    · obtain ⟨w, h1, h2⟩ := R.own j d' z2
      exact ⟨w, by rw [List.getElem?_set_ne z1]; exact h1, h2⟩
  · rcases getElem?_set_of z1 with ⟨_, y2⟩ | ⟨y1, y2⟩
    · cases y2
    · rcases getElem?_set_of z2 with ⟨_, x2⟩ | ⟨x1, x2⟩
      · cases x2
      · rw [List.getElem?_set_ne y1, List.getElem?_set_ne x1]
        exact R.dist j k dj dk y2 x2 ne
theorem names_ok {K : PySem.W.Frag} {Γ : Gh} {H : Hp} {Q : St → Hp → Prop} : ∀ (is : List Nat) (vs : List V) (ds : List D) (σ : St) (s : S), RS K Γ σ H s → RepL K Γ.F H vs ds → ds.length = is.length →
    (∀ σ1, RS K Γ σ1 H ((is.zip ds).foldl (fun s p => s.set p.1 (.fro p.2)) s) → (∀ us, (∀ i ∈ is, i ∈ us) → wipe σ1 us = wipe σ us) → Q σ1 H) → gNames is vs σ H Q
  | [], vs, ds, σ, s, R, r, hl, k => by
    cases ds with
    | cons _ _ => cases hl
    | nil => cases r; exact ⟨rfl, k σ R fun _ _ => rfl⟩
  | i :: is, vs, ds, σ, s, R, r, hl, k => by
    cases ds with
    | nil => cases hl
    | cons d ds =>
      cases r with
      | @cons v vs _ _ a b =>
        refine ⟨v, vs, rfl, names_ok is vs ds (σ.set i (some v)) (s.set i (.fro d)) (R.set i a) b (by simpa using hl) fun σ1 R1 hw => k σ1 R1 fun us hus => ?_⟩
        rw [hw us fun j hj => hus j (List.mem_cons_of_mem _ hj)]
        exact wipe_set (hus i List.mem_cons_self)
where
  wipe_set {σ : St} {i : Nat} {x : Option V} : ∀ {us : List Nat}, i ∈ us → wipe (σ.set i x) us = wipe σ us := fun {us} h => by
    have gen : ∀ us : List Nat, (i ∈ us → wipe (σ.set i x) us = wipe σ us) ∧ (i ∉ us → wipe (σ.set i x) us = (wipe σ us).set i x) := fun us => by
      induction us with
      | nil => exact ⟨fun h => by (cases h), fun _ => rfl⟩
      | cons u us ih =>
        refine ⟨fun h => ?_, fun h => ?_⟩
        · show (wipe (σ.set i x) us).set u none = (wipe σ us).set u none
          by_cases hm : i ∈ us
          · rw [ih.1 hm]
          · have e : i = u := by
              rcases List.mem_cons.mp h with e | h
              · exact e
              · exact absurd h hm
            subst e
            rw [ih.2 hm, List.set_set]
        · show (wipe (σ.set i x) us).set u none = ((wipe σ us).set u none).set i x
          have ne : i ≠ u := fun e => h (by rw [e]; exact List.mem_cons_self)
          rw [ih.2 fun hm => h (List.mem_cons_of_mem _ hm), List.set_comm _ _ ne]
    exact (gen us).1 h
theorem tgt_ok {K : PySem.W.Frag} {Γ : Gh} {σ : St} {H : Hp} {s s1 : S} {v : V} {d : D} {t : Tgt} {Q : St → Hp → Prop} (R : RS K Γ σ H s) (r : Rep K Γ.F H v d) (hb : bindT t d s = some s1)
    (k : ∀ σ1, RS K Γ σ1 H s1 → (∀ us, (∀ i ∈ t.slots, i ∈ us) → wipe σ1 us = wipe σ us) → Q σ1 H) : gOf K t v σ H Q := by
  cases t with
  | nm i =>
    cases hb
    exact k _ (R.set i r) fun us hus => names_ok.wipe_set (hus i List.mem_cons_self)
  | tp is =>
    cases d with
    | tup ds =>
      have hb : (if ds.length = is.length then some ((is.zip ds).foldl (fun s p => s.set p.1 (.fro p.2)) s) else none) = some s1 := hb
      split at hb
      · rename_i hl
        cases hb
        cases r with
        | tup f e r => exact ⟨_, _, rfl, SqT.of e, by rw [r.length]; exact hl, names_ok is _ ds σ s R r hl k⟩
      · cases hb
    | _ => cases hb
end

/-! a new list that grows beside the state -/
section
variable {K : PySem.W.Frag} {Γ Γ' : Gh} {σ : St} {H H' : Hp} {s s' : S}
theorem upd_keep' {H : Hp} {p a : Addr} {o u : HO} (ne : a ≠ p) (e : H a = some u) : upd H p o a = some u := by rw [upd_ne ne]; exact e
/-- an object that the state does not speak of is written -/
theorem RS.upd (R : RS K Γ σ H s) {p : Addr} (o : HO) (hF : ¬ Γ.F p) (hE : Γ.E p = none) (hs : ∀ (i : Nat) d, s.ρ[i]? = some (.own d) → σ[i]? ≠ some (some (.ref p))) : RS K Γ σ (L2.upd H p o) s := by
  have kp : ∀ a u, Γ.F a → H a = some u → L2.upd H p o a = some u := fun a u f e => upd_keep' (fun z => hF (z ▸ f)) e
  refine ⟨R.len, fun i d e => ?_, fun i d e => ?_, R.dist, fun a u e => upd_keep' (fun z => by rw [z, hE] at e; cases e) (R.entry a u e), fun a h => ?_, R.fnew, R.ws⟩
  · obtain ⟨v, h1, h2⟩ := R.fro i d e
    exact ⟨v, h1, Rep.mono (fun _ z => z) kp d v h2⟩
  · obtain ⟨v, h1, q, rfl, h2, h3, h4⟩ := R.own i d e
    have ne : q ≠ p := fun z => hs i d e (z ▸ h1)
    refine ⟨_, h1, q, rfl, h2, h3, ?_⟩
    cases d with
    | lst ds => obtain ⟨vs, a1, a2⟩ := h4; exact ⟨vs, upd_keep' ne a1, RepL.mono (fun _ z => z) kp ds vs a2⟩
    | dic ds => obtain ⟨vs, a1, a2⟩ := h4; exact ⟨vs, upd_keep' ne a1, RepK.mono (fun _ z => z) kp ds vs a2⟩
    | _ => exact h4.elim
  · cases q : H a with
    | none => exact absurd q (R.trk a h)
    | some u => rw [kp a u h q]; simp
theorem wipe_get (σ : St) (i : Nat) : ∀ us : List Nat, (i ∉ us → (wipe σ us)[i]? = σ[i]?) ∧ (i ∈ us → ∀ v, (wipe σ us)[i]? ≠ some (some v))
  | [] => ⟨fun _ => rfl, fun h => by cases h⟩
  | u :: us => by
    obtain ⟨h1, h2⟩ := wipe_get σ i us
    refine ⟨fun h => ?_, fun h v e => ?_⟩
    · show ((wipe σ us).set u none)[i]? = _
      rw [List.getElem?_set_ne fun e => h (by rw [e]; exact List.mem_cons_self)]
      exact h1 fun z => h (List.mem_cons_of_mem _ z)
    · have e : ((wipe σ us).set u none)[i]? = some (some v) := e
      rcases getElem?_set_of e with ⟨_, z⟩ | ⟨z1, z2⟩
      · cases z
      · rcases List.mem_cons.mp h with q | q
        · exact z1 q.symm
        · exact h2 q v z2
theorem S.wipe_get (s : S) (i : Nat) : ∀ us : List Nat, (i ∉ us → (s.wipe us).ρ[i]? = s.ρ[i]?) ∧ (i ∈ us → ∀ c, (s.wipe us).ρ[i]? = some c → c = .un)
  | [] => ⟨fun _ => rfl, fun h => by cases h⟩
  | u :: us => by
    obtain ⟨h1, h2⟩ := S.wipe_get s i us
    refine ⟨fun h => ?_, fun h c e => ?_⟩
    · show ((s.wipe us).ρ.set u .un)[i]? = _
      rw [List.getElem?_set_ne fun e => h (by rw [e]; exact List.mem_cons_self)]
      exact h1 fun z => h (List.mem_cons_of_mem _ z)
    · have e : ((s.wipe us).ρ.set u .un)[i]? = some c := e
      rcases getElem?_set_of e with ⟨_, z⟩ | ⟨z1, z2⟩
      · exact z
      · rcases List.mem_cons.mp h with q | q
        · exact absurd q.symm z1
        · exact h2 q c z2
theorem S.wipe_len (s : S) : ∀ us : List Nat, (s.wipe us).ρ.length = s.ρ.length
  | [] => rfl
  | u :: us => by
    show ((s.wipe us).ρ.set u .un).length = _
    rw [List.length_set, S.wipe_len s us]
theorem S.wipe_w (s : S) : ∀ us : List Nat, (s.wipe us).w = s.w
  | [] => rfl
  | u :: us => S.wipe_w s us
theorem S.wipe_some {s : S} {i : Nat} {us : List Nat} {c : Cl} (h : (s.wipe us).ρ[i]? = some c) (hc : c ≠ .un) : i ∉ us ∧ s.ρ[i]? = some c := by
  obtain ⟨h1, h2⟩ := s.wipe_get i us
  by_cases hm : i ∈ us
  · exact absurd (h2 hm c h) hc
  · exact ⟨hm, by rw [← h1 hm]; exact h⟩
theorem RS.wipe (R : RS K Γ σ H s) (us : List Nat) : RS K Γ (L2.wipe σ us) H (s.wipe us) := by
  refine ⟨by rw [S.wipe_len, wipe_length]; exact R.len, fun i d e => ?_, fun i d e => ?_, fun i j di dj e1 e2 ne => ?_, R.entry, R.trk, R.fnew, (s.wipe_w us).trans R.ws⟩
  · obtain ⟨n, e⟩ := S.wipe_some e (by simp)
    obtain ⟨v, h1, h2⟩ := R.fro i d e
    exact ⟨v, by rw [(wipe_get σ i us).1 n]; exact h1, h2⟩
  · obtain ⟨n, e⟩ := S.wipe_some e (by simp)
    obtain ⟨v, h1, h2⟩ := R.own i d e
    exact ⟨v, by rw [(wipe_get σ i us).1 n]; exact h1, h2⟩
  · obtain ⟨n1, e1⟩ := S.wipe_some e1 (by simp)
    obtain ⟨n2, e2⟩ := S.wipe_some e2 (by simp)
    rw [(wipe_get σ i us).1 n1, (wipe_get σ j us).1 n2]
    exact R.dist i j di dj e1 e2 ne
theorem S.back_get (s s0 : S) (i : Nat) : ∀ us : List Nat, (i ∉ us → (s.back s0 us).ρ[i]? = s.ρ[i]?) ∧ (i ∈ us → i < s.ρ.length → (s.back s0 us).ρ[i]? = some (s0.ρ.getD i .un))
  | [] => ⟨fun _ => rfl, fun h => by cases h⟩
  | u :: us => by
    obtain ⟨h1, h2⟩ := S.back_get s s0 i us
    have ln : (s.back s0 us).ρ.length = s.ρ.length := back_len s s0 us
    refine ⟨fun h => ?_, fun h hi => ?_⟩
    · show ((s.back s0 us).ρ.set u _)[i]? = _
      rw [List.getElem?_set_ne fun e => h (by rw [e]; exact List.mem_cons_self)]
      exact h1 fun z => h (List.mem_cons_of_mem _ z)
    · show ((s.back s0 us).ρ.set u (s0.ρ.getD u .un))[i]? = _
      by_cases e : u = i
      · subst e
        rw [List.getElem?_set_self (by rw [ln]; exact hi)]
      · rw [List.getElem?_set_ne e]
        rcases List.mem_cons.mp h with q | q
        · exact absurd q.symm e
        · exact h2 q hi
where
  back_len (s s0 : S) : ∀ us : List Nat, (s.back s0 us).ρ.length = s.ρ.length
    | [] => rfl
    | u :: us => by
      show ((s.back s0 us).ρ.set u _).length = _
      rw [List.length_set]
      exact back_len s s0 us
theorem S.back_w (s s0 : S) : ∀ us : List Nat, (s.back s0 us).w = s.w
  | [] => rfl
  | u :: us => S.back_w s s0 us
/-- behind a block: its own slots are as they were -/
theorem back_ok {Γ1 : Gh} {H1 : Hp} {s1 : S} {us : List Nat} (R1 : RS K Γ1 σ H1 s1) (st : Step Γ1 (L2.wipe σ us) H1 (s1.wipe us) Γ H (s'.wipe us)) (R : RS K Γ (L2.wipe σ us) H (s'.wipe us)) :
    Step Γ1 σ H1 s1 Γ H (s'.back s1 us) ∧ RS K Γ σ H (s'.back s1 us) := by
  have ln : s'.ρ.length = s1.ρ.length := by rw [← S.wipe_len s' us, ← S.wipe_len s1 us]; exact st.len
  -- what stands in a slot behind
  have look : ∀ {i : Nat} {c : Cl}, (s'.back s1 us).ρ[i]? = some c → (i ∈ us ∧ s1.ρ[i]? = some c) ∨ (i ∉ us ∧ s'.ρ[i]? = some c) := fun {i c} e => by
    obtain ⟨h1, h2⟩ := S.back_get s' s1 i us
    by_cases hm : i ∈ us
    · have hi : i < s'.ρ.length := by
        rw [← S.back_get.back_len s' s1 us]
        exact (List.getElem?_eq_some_iff.mp e).1
      rw [h2 hm hi] at e
      refine .inl ⟨hm, ?_⟩
      rw [ln] at hi
      rw [List.getElem?_eq_getElem hi]
      rw [List.getD_eq_getElem?_getD, List.getElem?_eq_getElem hi] at e
      exact e
    · exact .inr ⟨hm, by rw [← h1 hm]; exact e⟩
  have win : ∀ {t : S} {i : Nat} {c : Cl}, i ∉ us → t.ρ[i]? = some c → (t.wipe us).ρ[i]? = some c := fun {t i c} n e => by rw [(S.wipe_get t i us).1 n]; exact e
  have wout : ∀ {i : Nat} {x : Option (Option V)}, i ∉ us → (L2.wipe σ us)[i]? = x → σ[i]? = x := fun {i x} n e => by rw [← (wipe_get σ i us).1 n]; exact e
  refine ⟨⟨st.mono, st.e, st.f0, st.keep, fun a h => ?_, fun i c e => ?_, (S.back_get.back_len s' s1 us).trans ln⟩, ⟨(S.back_get.back_len s' s1 us).trans (ln.trans R1.len), fun i d e => ?_, fun i d e => ?_, fun i j di dj e1 e2 ne => ?_, R.entry, R.trk, R.fnew, (S.back_w s' s1 us).trans ((S.wipe_w s' us).symm.trans R.ws)⟩⟩
  · rcases st.new a h with q | q | ⟨i, d, q1, q2⟩
    · exact .inl q
    · exact .inr (.inl q)
    · obtain ⟨n, q1⟩ := S.wipe_some q1 (by simp)
      exact .inr (.inr ⟨i, d, q1, wout n q2⟩)
  · obtain ⟨h1, h2⟩ := S.back_get s' s1 i us
    by_cases hm : i ∈ us
    · have hi : i < s1.ρ.length := (List.getElem?_eq_some_iff.mp e).1
      rw [h2 hm (by rw [ln]; exact hi), List.getD_eq_getElem?_getD, e]
      exact .inl rfl
    · rw [h1 hm, ← (S.wipe_get s' i us).1 hm]
      exact st.cells i c (win hm e)
  · rcases look e with ⟨n, q⟩ | ⟨n, q⟩
    · obtain ⟨v, h1, h2⟩ := R1.fro i d q
      exact ⟨v, h1, h2.step st⟩
    · obtain ⟨v, h1, h2⟩ := R.fro i d (win n q)
      exact ⟨v, wout n h1, h2⟩
  · rcases look e with ⟨n, q⟩ | ⟨n, q⟩
    · obtain ⟨v, h1, p, rfl, h2, h3, h4⟩ := R1.own i d q
      refine ⟨_, h1, p, rfl, fun z => ?_, by rw [st.e]; exact h3, h4.step st⟩
      rcases st.new p z with y | y | ⟨j, d', y1, y2⟩
      · exact h2 y
      · exact h4.trk y
      · obtain ⟨n', y1⟩ := S.wipe_some y1 (by simp)
        exact R1.dist i j d d' q y1 (fun e => n' (e ▸ n)) (h1.trans (wout n' y2).symm)
    · obtain ⟨v, h1, p, rfl, h2, h3, h4⟩ := R.own i d (win n q)
      exact ⟨_, wout n h1, p, rfl, h2, h3, h4⟩
  · rcases look e1 with ⟨n1, q1⟩ | ⟨n1, q1⟩
    · rcases look e2 with ⟨n2, q2⟩ | ⟨n2, q2⟩
      · exact R1.dist i j di dj q1 q2 ne
      · exact R1.dist i j di dj q1 (S.wipe_some (st.ownBack (win n2 q2)) (by simp)).2 ne
    · rcases look e2 with ⟨n2, q2⟩ | ⟨n2, q2⟩
      · exact R1.dist i j di dj (S.wipe_some (st.ownBack (win n1 q1)) (by simp)).2 q2 ne
      · have := R.dist i j di dj (win n1 q1) (win n2 q2) ne
        rw [(wipe_get σ i us).1 n1, (wipe_get σ j us).1 n2] at this
        exact this
end

/-! comprehensions -/
abbrev W0 : WX := fun _ _ _ _ => False
/-- what is wanted of the rest of a comprehension's loop: no refusal, and the end -/
def LcGood (K : PySem.W.Frag) (Γ1 : Gh) (σ : St) (H1 : Hp) (s1 : S) (us : List Nat) (L : Addr) (Q : VK) : R (List D) → Prop
  | .ok ys s' => ∀ Γ H vs, Step Γ1 (wipe σ us) H1 (s1.wipe us) Γ H (s'.wipe us) → RS K Γ (wipe σ us) H (s'.wipe us) → ¬ Γ.F L → H L = some (.lst vs) → RepL K Γ.F H vs ys → Q (.ref L) H
  | _ => False
section
variable {C : Call} {ca : CA} {X : Cx} {W : WX} {a : DE}
theorem LcGood.bind {α : Type} {K : PySem.W.Frag} {Γ1 : Gh} {σ : St} {H1 : Hp} {s1 : S} {us : List Nat} {L : Addr} {Q : VK} {r : R α} {f : α → S → R (List D)} (h : LcGood K Γ1 σ H1 s1 us L Q (r.bind f)) {Γ : Gh} {σ' : St} {H : Hp} {s : S} {okP : Gh → Hp → S → α → Prop}
    (k : ∀ x s' Γ' H', r = .ok x s' → Step Γ σ' H s Γ' H' s' → RS K Γ' σ' H' s' → LcGood K Γ1 σ H1 s1 us L Q (f x s') → okP Γ' H' s' x) : WR K W0 ca Γ σ' H s okP r := by
  cases r with
  | ok x s' => exact fun Γ' H' st R => k x s' Γ' H' rfl st R h
  | exc c s' => exact h.elim
  | stuck => exact h.elim
theorem foldl_own {i : Nat} {d' : D} : ∀ (ps : List (Nat × D)) (s : S), (ps.foldl (fun s p => s.set p.1 (.fro p.2)) s).ρ[i]? = some (.own d') → s.ρ[i]? = some (.own d')
  | [], _, h => h
  | p :: ps, s, h => by
    have h := foldl_own ps _ h
    rcases getElem?_set_of h with ⟨_, z⟩ | ⟨_, z⟩
    · cases z
    · exact z
theorem bindT_own {t : Tgt} {d : D} {s s1 : S} {i : Nat} {d' : D} (hb : bindT t d s = some s1) (h : s1.ρ[i]? = some (.own d')) : s.ρ[i]? = some (.own d') := by
  cases t with
  | nm j =>
    cases hb
    rcases getElem?_set_of h with ⟨_, z⟩ | ⟨_, z⟩
    · cases z
    · exact z
  | tp is =>
    cases d with
    | tup ds =>
      have hb : (if ds.length = is.length then some ((is.zip ds).foldl (fun s p => s.set p.1 (.fro p.2)) s) else none) = some s1 := hb
      split at hb
      · cases hb
        exact foldl_own _ _ h
      · cases hb
    | _ => cases hb
theorem S.wipe_set {s : S} {i : Nat} {c : Cl} {us : List Nat} (h : i ∈ us) : (s.set i c).wipe us = s.wipe us := by
  have gen : ∀ us : List Nat, (i ∈ us → (s.set i c).wipe us = s.wipe us) ∧ (i ∉ us → (s.set i c).wipe us = (s.wipe us).set i c) := fun us => by
    induction us with
    | nil => exact ⟨fun h => by (cases h), fun _ => rfl⟩
    | cons u us ih =>
      refine ⟨fun h => ?_, fun h => ?_⟩
      · show ((s.set i c).wipe us).set u .un = (s.wipe us).set u .un
        by_cases hm : i ∈ us
        · rw [ih.1 hm]
        · have e : i = u := by
            rcases List.mem_cons.mp h with e | h
            · exact e
            · exact absurd h hm
          subst e
          rw [ih.2 hm]
          show ({ (s.wipe us) with ρ := ((s.wipe us).ρ.set i c).set i .un } : S) = { (s.wipe us) with ρ := (s.wipe us).ρ.set i .un }
          rw [List.set_set]
      · show ((s.set i c).wipe us).set u .un = ((s.wipe us).set u .un).set i c
        have ne : i ≠ u := fun e => h (by rw [e]; exact List.mem_cons_self)
        rw [ih.2 fun hm => h (List.mem_cons_of_mem _ hm)]
        show ({ (s.wipe us) with ρ := ((s.wipe us).ρ.set i c).set u .un } : S) = { (s.wipe us) with ρ := ((s.wipe us).ρ.set u .un).set i c }
        rw [List.set_comm _ _ ne]
  exact (gen us).1 h
theorem foldl_wipe {us : List Nat} : ∀ (ps : List (Nat × D)) (s : S), (∀ p ∈ ps, p.1 ∈ us) → (ps.foldl (fun s p => s.set p.1 (.fro p.2)) s).wipe us = s.wipe us
  | [], _, _ => rfl
  | p :: ps, s, h => (foldl_wipe ps (s.set p.1 (.fro p.2)) fun q m => h q (List.mem_cons_of_mem _ m)).trans (S.wipe_set (h p List.mem_cons_self))
theorem bindT_wipe {t : Tgt} {d : D} {s s1 : S} {us : List Nat} (hb : bindT t d s = some s1) (h : ∀ i ∈ t.slots, i ∈ us) : s1.wipe us = s.wipe us := by
  cases t with
  | nm j =>
    cases hb
    exact S.wipe_set (h j List.mem_cons_self)
  | tp is =>
    cases d with
    | tup ds =>
      have hb : (if ds.length = is.length then some ((is.zip ds).foldl (fun s p => s.set p.1 (.fro p.2)) s) else none) = some s1 := hb
      split at hb
      · cases hb
        exact foldl_wipe _ _ fun p m => h _ (List.of_mem_zip (a := p.1) (b := p.2) m).1
      · cases hb
    | _ => cases hb
theorem S.wipe_wipe (s : S) (us : List Nat) : (s.wipe us).wipe us = s.wipe us := by
  have ih : ∀ vs : List Nat, (∀ u ∈ vs, u ∈ us) → (s.wipe vs).wipe us = s.wipe us := fun vs => by
    induction vs with
    | nil => intro _; rfl
    | cons v vs ih =>
      intro h
      show ((s.wipe vs).set v .un).wipe us = _
      rw [S.wipe_set (h v List.mem_cons_self)]
      exact ih fun u m => h u (List.mem_cons_of_mem _ m)
  exact ih us fun _ m => m
theorem wipe_wipe (σ : St) (us : List Nat) : wipe (wipe σ us) us = wipe σ us := by
  have ih : ∀ vs : List Nat, (∀ u ∈ vs, u ∈ us) → wipe (wipe σ vs) us = wipe σ us := fun vs => by
    induction vs with
    | nil => intro _; rfl
    | cons v vs ih =>
      intro h
      show wipe ((wipe σ vs).set v none) us = _
      rw [names_ok.wipe_set (h v List.mem_cons_self)]
      exact ih fun u m => h u (List.mem_cons_of_mem _ m)
  exact ih us fun _ m => m
/-- a step within a block, seen with the block's own slots forgotten -/
theorem Step.wipe {Γ Γ' : Gh} {σ : St} {H H' : Hp} {s s' : S} {us : List Nat} (st : Step Γ σ H s Γ' H' s') (h : ∀ (i : Nat) d, s.ρ[i]? = some (.own d) → i ∉ us) : Step Γ (L2.wipe σ us) H (s.wipe us) Γ' H' (s'.wipe us) := by
  refine ⟨st.mono, st.e, st.f0, st.keep, fun a z => ?_, fun i c e => ?_, by rw [S.wipe_len, S.wipe_len]; exact st.len⟩
  · rcases st.new a z with q | q | ⟨i, d, q1, q2⟩
    · exact .inl q
    · exact .inr (.inl q)
    · have n := h i d q1
      exact .inr (.inr ⟨i, d, by rw [(S.wipe_get s i us).1 n]; exact q1, by rw [(wipe_get σ i us).1 n]; exact q2⟩)
  · by_cases hm : i ∈ us
    · have ec := (S.wipe_get s i us).2 hm c e
      subst ec
      have hi : i < (s'.wipe us).ρ.length := by
        rw [S.wipe_len, st.len, ← S.wipe_len s us]
        exact (List.getElem?_eq_some_iff.mp e).1
      refine .inl ?_
      have q := List.getElem?_eq_getElem hi
      rw [q]
      exact congrArg some ((S.wipe_get s' i us).2 hm _ q)
    · rw [(S.wipe_get s i us).1 hm] at e
      rw [(S.wipe_get s' i us).1 hm]
      exact st.cells i c e
def tC (C : Call) (ca : CA) (K : PySem.W.Frag) : DO → TT
  | .none => tYes
  | .some d => tT C ca K W0 d
/-- what the loop keeps: i items are walked, the list so far stands at L -/
def LcInv (K : PySem.W.Frag) (C : Call) (tgt : Tgt) (us : List Nat) (cond : S → R Bool) (elt : S → R D) (ds : List D) (Γ1 : Gh) (σ : St) (H1 : Hp) (s1 : S) (L : Addr) (Q : VK) (i : Nat) (H : Hp) : Prop :=
  ∃ Γ s acc vs, Step Γ1 (wipe σ us) H1 (s1.wipe us) Γ H (s.wipe us) ∧ RS K Γ (wipe σ us) H (s.wipe us) ∧ ¬ Γ.F L ∧ H L = some (.lst vs) ∧ RepL K Γ.F H vs acc ∧ LcGood K Γ1 σ H1 s1 us L Q (lcL tgt us cond elt (ds.drop i) acc s)
theorem lc_turn {tgt : Tgt} {us : List Nat} {cond : DO} {elt : DE} {ds : List D} {Γ1 : Gh} {σ : St} {H1 : Hp} {s1 : S} {L : Addr} {Q : VK} {i : Nat} {H H' : Hp} {K : PySem.W.Frag} {J : It} {x : V} (R1 : RS K Γ1 σ H1 s1) (hL : H1 L = none) (dr : Draws K J Γ1.F H1 ds) (hsl : ∀ i ∈ tgt.slots, i ∈ us)
    (inv : LcInv K C tgt us (fun s => evalC C cond s) (fun s => (evalE C elt s).bind fun y s => .ok y.1 (s.fz y.2)) ds Γ1 σ H1 s1 L Q i H) (hi : i < ds.length) (y : J.yld i H x H') :
    gOf K tgt x (wipe σ us) H' fun σ2 H2 => wipe σ2 us = wipe σ us ∧ tC C ca K cond σ2 H2 fun b H3 =>
      if b = true then tE C ca K W0 elt σ2 H3 fun y H4 => ∃ acc, H4 L = some (.lst acc) ∧ acc.length < sizeLine ∧ LcInv K C tgt us (fun s => evalC C cond s) (fun s => (evalE C elt s).bind fun y s => .ok y.1 (s.fz y.2)) ds Γ1 σ H1 s1 L Q (i + 1) (upd H4 L (.lst (acc ++ [y])))
      else LcInv K C tgt us (fun s => evalC C cond s) (fun s => (evalE C elt s).bind fun y s => .ok y.1 (s.fz y.2)) ds Γ1 σ H1 s1 L Q (i + 1) H3 := by
  obtain ⟨Γ, s, acc, vs, st, R, nF, hD, rl, good⟩ := inv
  obtain ⟨d, hd, alt⟩ := dr.yld i H x H' Γ.F (fun a o f e => st.keep a o e) st.mono y hi
  -- the item is here, read only
  have here : ∃ Γ2, Step Γ (wipe σ us) H (s.wipe us) Γ2 H' (s.wipe us) ∧ RS K Γ2 (wipe σ us) H' (s.wipe us) ∧ ¬ Γ2.F L ∧ Rep K Γ2.F H' x d := by
    rcases alt with ⟨e, r⟩ | ⟨T, ws, es, rfl, hT, e, ed, r⟩
    · subst e; exact ⟨Γ, .refl, R, nF, r⟩
    · subst e; subst ed
      obtain ⟨st2, R2⟩ := R.lay (.tup ws) hT
      refine ⟨_, st2, R2, fun z => ?_, rep_tup hT r⟩
      rcases z with z | z
      · exact nF z
      · rw [← z, hD] at hT; cases hT
  obtain ⟨Γ2, st2, R2, nF2, rx⟩ := here
  have hD2 : H' L = some (.lst vs) := st2.keep _ _ hD
  have rl2 : RepL K Γ2.F H' vs acc := rl.step st2
  have ed : ds.drop i = d :: ds.drop (i + 1) := by
    rw [List.drop_eq_getElem_cons hi]
    rw [List.getElem?_eq_getElem hi] at hd
    cases hd; rfl
  rw [ed] at good
  cases q : bindT tgt d (s.wipe us) with
  | none => simp only [lcL, q] at good; exact good.elim
  | some s2 =>
    simp only [lcL, q] at good
    refine tgt_ok R2 rx q fun σ2 R3 hw => ?_
    have ew : wipe σ2 us = wipe σ us := (hw us hsl).trans (wipe_wipe σ us)
    refine ⟨ew, ?_⟩
    have s2w : s2.wipe us = s.wipe us := (bindT_wipe q hsl).trans (S.wipe_wipe s us)
    have own2 : ∀ {s' : S} {i : Nat} {d : D} {Γ' : Gh} {H'' : Hp}, Step Γ2 σ2 H' s2 Γ' H'' s' → s'.ρ[i]? = some (.own d) → i ∉ us ∧ (s1.wipe us).ρ[i]? = some (.own d) := fun stp e => by
      have e2 := bindT_own q (stp.ownBack e)
      exact ⟨(S.wipe_some e2 (by simp)).1, st.ownBack e2⟩
    -- no slot owns the new list
    have noL : ∀ {s' : S} {i : Nat} {d : D} {Γ' : Gh} {H'' : Hp}, Step Γ2 σ2 H' s2 Γ' H'' s' → s'.ρ[i]? = some (.own d) → σ2[i]? ≠ some (some (.ref L)) := fun {s' i d Γ' H''} stp e z => by
      obtain ⟨n, e1⟩ := own2 stp e
      obtain ⟨v, g1, p, rfl, _, _, g4⟩ := (R1.wipe us).own i d e1
      have : (wipe σ us)[i]? = some (some (.ref L)) := by rw [← ew, (wipe_get σ2 i us).1 n]; exact z
      rw [this] at g1; cases g1
      exact g4.trk hL
    have stB : ∀ {s' : S} {Γ' : Gh} {H'' : Hp}, Step Γ2 σ2 H' s2 Γ' H'' s' → Step Γ1 (wipe σ us) H1 (s1.wipe us) Γ' H'' (s'.wipe us) := fun {s' Γ' H''} stp => by
      have w := Step.wipe (us := us) stp fun i d e => (own2 .refl e).1
      rw [ew, s2w] at w
      exact st.trans (st2.trans w)
    have RB : ∀ {s' : S} {Γ' : Gh} {H'' : Hp}, RS K Γ' σ2 H'' s' → RS K Γ' (wipe σ us) H'' (s'.wipe us) := fun {s' Γ' H''} r => by
      have w := r.wipe us
      rw [ew] at w
      exact w
    have nFB : ∀ {s' : S} {Γ' : Gh} {H'' : Hp}, Step Γ2 σ2 H' s2 Γ' H'' s' → ¬ Γ'.F L := fun {s' Γ' H''} stp z => by
      rcases stp.new L z with q' | q' | ⟨i, d, q1, q2⟩
      · exact nF2 q'
      · rw [hD2] at q'; cases q'
      · exact noL .refl q1 q2
    -- behind the test
    have next : ∀ b s3 Γ3 H3, Step Γ2 σ2 H' s2 Γ3 H3 s3 → RS K Γ3 σ2 H3 s3 →
        LcGood K Γ1 σ H1 s1 us L Q (if b = true then ((evalE C elt s3).bind fun y s => .ok y.1 (s.fz y.2)).bind fun y s3 => if acc.length < LEN then lcL tgt us (fun s => evalC C cond s) (fun s => (evalE C elt s).bind fun y s => .ok y.1 (s.fz y.2)) (ds.drop (i + 1)) (acc ++ [y]) s3 else .stuck else lcL tgt us (fun s => evalC C cond s) (fun s => (evalE C elt s).bind fun y s => .ok y.1 (s.fz y.2)) (ds.drop (i + 1)) acc s3) →
        if b = true then tE C ca K W0 elt σ2 H3 fun y H4 => ∃ acc, H4 L = some (.lst acc) ∧ acc.length < sizeLine ∧ LcInv K C tgt us (fun s => evalC C cond s) (fun s => (evalE C elt s).bind fun y s => .ok y.1 (s.fz y.2)) ds Γ1 σ H1 s1 L Q (i + 1) (upd H4 L (.lst (acc ++ [y])))
        else LcInv K C tgt us (fun s => evalC C cond s) (fun s => (evalE C elt s).bind fun y s => .ok y.1 (s.fz y.2)) ds Γ1 σ H1 s1 L Q (i + 1) H3 := fun b s3 Γ3 H3 st3 R4 good => by
      cases b with
      | false =>
        refine iteF ⟨Γ3, s3, acc, vs, stB st3, RB R4, nFB st3, st3.keep _ _ hD2, rl2.step st3, ?_⟩
        exact good
      | true =>
        refine iteT ⟨Γ3, s3, R4, ?_⟩
        have good : LcGood K Γ1 σ H1 s1 us L Q (((evalE C elt s3).bind fun y s => .ok y.1 (s.fz y.2)).bind fun y s3 => if acc.length < LEN then lcL tgt us (fun s => evalC C cond s) (fun s => (evalE C elt s).bind fun y s => .ok y.1 (s.fz y.2)) (ds.drop (i + 1)) (acc ++ [y]) s3 else .stuck) := good
        have e : ∀ r : DL.R Val, (r.bind fun y s => DL.R.ok y.1 (s.fz y.2)).bind (fun y s3 => if acc.length < LEN then lcL tgt us (fun s => evalC C cond s) (fun s => (evalE C elt s).bind fun y s => .ok y.1 (s.fz y.2)) (ds.drop (i + 1)) (acc ++ [y]) s3 else .stuck) = r.bind fun y s3 => if acc.length < LEN then lcL tgt us (fun s => evalC C cond s) (fun s => (evalE C elt s).bind fun y s => .ok y.1 (s.fz y.2)) (ds.drop (i + 1)) (acc ++ [y.1]) (s3.fz y.2) else .stuck := fun r => by cases r <;> rfl
        rw [e] at good
        refine LcGood.bind good fun yv s4 Γ4 H4 _ st4 R5 good v rv fr => ?_
        obtain ⟨Γ5, st5, R6, rp⟩ := R5.freeze st4 rv fr
        have st35 := st3.trans st5
        have hD4 : H4 L = some (.lst vs) := st35.keep _ _ hD2
        split at good
        · rename_i hz
          have nF5 := nFB st35
          refine ⟨vs, hD4, by rw [len_eq, rl2.length]; exact hz, Γ5, s4.fz yv.2, acc ++ [yv.1], vs ++ [v], ?_, ?_, nF5, upd_same, ?_, good⟩
          · have w := stB st35
            exact ⟨w.mono, w.e, w.f0, fun a o e => upd_keep' (fun z => by rw [z, hL] at e; cases e) (w.keep a o e), w.new, w.cells, w.len⟩
          · refine (RB R6).upd _ nF5 ?_ fun i d e z => ?_
            · rw [(stB st35).e]
              exact R1.newE hL
            · obtain ⟨n, e'⟩ := S.wipe_some e (by simp)
              exact noL st35 e' (by rw [← (wipe_get σ2 i us).1 n, ew]; exact z)
          · exact RepL.mono (F := Γ5.F) (fun _ z => z) (fun a o (f : Γ5.F a) e => upd_keep' (fun (z : a = L) => nF5 (z ▸ f)) e) _ _ ((rl2.step st35).append (.cons rp .nil))
        · exact good.elim
    cases cond with
    | none =>
      exact next true s2 Γ2 H' .refl R3 (by simp only [evalC] at good; exact good)
    | some cd =>
      refine ⟨Γ2, s2, R3, ?_⟩
      simp only [evalC] at good
      exact LcGood.bind good fun b s3 Γ3 H3 _ st3 R4 good => next b s3 Γ3 H3 st3 R4 good
/-- the reading of a comprehension -/
theorem lc_read {src : DSrc} {tgt : Tgt} {own : List (Str × Nat)} {cond : DO} {elt : DE} {tg it : Expr} (hS : SI C ca X W src tg it) (hsl : ∀ i ∈ tgt.slots, i ∈ own.map (·.2)) :
    ∃ wi : TI, PI X tg it wi ∧ ∀ Γ σ H s Q, RS X.K Γ σ H s → WE X.K W ca Γ σ H s Q (evalE C (.lc src tgt own cond elt) s) → tLc wi (gOf X.K tgt) (tC C ca X.K cond) (tE C ca X.K W0 elt) (own.map (·.2)) σ H Q := by
  obtain ⟨wi, pi, iw⟩ := hS.ex
  refine ⟨wi, pi, fun Γ σ H s Q R h => ?_⟩
  simp only [evalE] at h
  refine iw Γ σ H s _ R (WR.bind h fun Γ1 H1 s1 ds st1 R1 w J dr L hL => ?_)
  have good : LcGood X.K Γ1 σ H1 s1 (own.map (·.2)) L Q (lcL tgt (own.map (·.2)) (fun s => evalC C cond s) (fun s => (evalE C elt s).bind fun y s => .ok y.1 (s.fz y.2)) ds [] s1) := by
    cases q : lcL tgt (own.map (·.2)) (fun s => evalC C cond s) (fun s => (evalE C elt s).bind fun y s => .ok y.1 (s.fz y.2)) ds [] s1 with
    | ok ys s' =>
      rw [q] at w
      intro Γ' H' vs st R' nF hD rl
      obtain ⟨st2, R2⟩ := back_ok R1 st R'
      have w : WE X.K W ca Γ σ H s Q (.ok (.lst ys, .fre) (s'.back s1 (own.map (·.2)))) := w
      refine w _ _ (st1.trans st2) R2 (.ref L) ⟨⟨L, rfl, nF, by rw [st2.e]; exact R1.newE hL, vs, hD, rl⟩, fun i d e z => ?_⟩ fun _ p e => by cases e; exact st1.none_back hL
      obtain ⟨v, q1, p, rfl, _, _, q4⟩ := R1.own i d (st2.ownBack e)
      rw [z] at q1; cases q1
      exact q4.trk hL
    | exc k s' => rw [q] at w; exact w
    | stuck => rw [q] at w; exact w
  obtain ⟨st0, R0⟩ := (R1.wipe (own.map (·.2))).layOwn (.lst []) hL
  refine ⟨fun i m H' => m = ds.length - i ∧ i ≤ ds.length ∧ LcInv X.K C tgt (own.map (·.2)) (fun s => evalC C cond s) (fun s => (evalE C elt s).bind fun y s => .ok y.1 (s.fz y.2)) ds Γ1 σ H1 s1 L Q i H',
    ⟨ds.length, rfl, Nat.zero_le _, Γ1, s1, [], [], st0, R0, R1.newF hL, upd_same, .nil, good⟩, ?_⟩
  rintro i m H' ⟨rfl, hi, inv⟩
  by_cases hlt : i < ds.length
  · refine .inr ⟨?_, LcInv X.K C tgt (own.map (·.2)) (fun s => evalC C cond s) (fun s => (evalE C elt s).bind fun y s => .ok y.1 (s.fz y.2)) ds Γ1 σ H1 s1 L Q (i + 1), fun H2 p => ⟨ds.length - (i + 1), by omega, rfl, hlt, p⟩, fun x H2 y => lc_turn R1 hL dr hsl inv hlt y⟩
    obtain ⟨Γ', s', acc, vs, st, _⟩ := inv
    exact dr.go i H' (fun a o f e => st.keep a o e) hlt
  · have e : i = ds.length := by omega
    subst e
    obtain ⟨Γ', s', acc, vs, st, R', nF, hD, rl, g⟩ := inv
    refine .inl ⟨dr.stop H' fun a o f e => st.keep a o e, ?_⟩
    rw [List.drop_length] at g
    exact g Γ' H' vs st R' nF hD rl
theorem c_lc {src : DSrc} {tgt : Tgt} {own : List (Str × Nat)} {cond : DO} {elt : DE} {eltE tg it : Expr} {ifs : List Expr} {scope : Scope} {pos : Pos} (hcm : X.calm = true) (nd : X.N.Nodup) (hS : SI C ca X W src tg it) (hsl : ∀ i ∈ tgt.slots, i ∈ own.map (·.2)) (ok : BlkOk X.N X.env.scope scope own)
    (hg : ∀ (s : Shared) (H : Hp) (c : Addr) (cl : List (Str × Addr)) (fp : List Addr), PG (X.blk s H scope (compEnvC scope cl c X.env) fp) tg (gOf X.K tgt))
    (hc : ∀ (s : Shared) (H : Hp) (c : Addr) (cl : List (Str × Addr)) (fp : List Addr), PTs (X.blk s H scope (compEnvC scope cl c X.env) fp) ifs (tC C ca X.K cond))
    (he : ∀ (s : Shared) (H : Hp) (c : Addr) (cl : List (Str × Addr)) (fp : List Addr), PE (X.blk s H scope (compEnvC scope cl c X.env) fp) eltE (tE C ca X.K W0 elt)) (hs : ∀ x, foldedSetIterable it X.env x = pure x) :
    SE C ca X W (.lc src tgt own cond elt) (.ListComp eltE [⟨tg, it, ifs, 0⟩] scope pos) := by
  obtain ⟨wi, pi, i⟩ := lc_read (cond := cond) (elt := elt) hS hsl
  exact ⟨_, pe_lc hcm nd pi ok hg hc he hs, i⟩
end
end DL

/-! DL9: the check of expressions, and that what is checked is sound. -/
namespace DL
open PySem L2

def bltNames : List Str := ["len", "list", "tuple", "sum", "all", "max", "min", "abs", "int", "str", "sorted", "isinstance", "range", "enumerate", "zip", "bool", "set"]
structure XOk (c : Ctx) (C : Call) (n : Nat) (ca : CA) (X : Cx) (W : WX) : Prop where
  hN : X.N = c.N
  nd : c.N.Nodup
  sc : X.env.scope = c.sc
  calm : X.calm = true
  tk : Takes X W
  room : Room n X.A
  fns : ∀ k x a, (k, x, a) ∈ c.p.fns → ∃ (f : Addr) (fd : FuncData) (ps : List Str), ps.length = a ∧ X.mg x = some (.ref f) ∧ PySem.W.keepIn X.K (.ref f) = true ∧ Binds X.K fd ps [] ∧ FnOk X.prog X.w X.K X.mg X.base (L2.CX X.prog X.w) n f fd ps (specF ca C a k X.K)
  gints : ∀ x i, (x, i) ∈ c.p.gints → ∃ t, X.mg x = some (.int i t)
  blt : ∀ x : Str, x ∈ bltNames → X.mg x = none

def isVis (sc : Scope) (x : Str) : Bool := match sc.names.lookup x with
  | some .local => true
  | some .cell => true
  | some .free => true
  | _ => false
def isLocal (sc : Scope) (x : Str) : Bool := match sc.names.lookup x with
  | some .local => true
  | _ => false
def isLoc (fl : Bool) (sc : Scope) (x : Str) : Bool := match sc.names.lookup x with
  | some .local => true
  | some .cell => fl
  | _ => false
def isGl (sc : Scope) (x : Str) : Bool := match sc.names.lookup x with
  | some .globalImplicit => true
  | _ => false
def okName (x : Str) : Bool := !(x == ("__debug__" : Str)) && !(x == ("__classdict__" : Str))
def notIfe : DE → Bool
  | .ife _ _ _ => false
  | .orT _ _ => false
  | _ => true
def notCall0 : Expr → Bool
  | .Call _ [] [] _ => false
  | _ => true
def chkT (fl : Bool) (t : Tgt) (c : Ctx) (sc : Scope) (e : Expr) : Bool :=
  match t, e with
  | .nm i, .Name x _ => decide (c.N[i]? = some x) && isLoc fl sc x
  | .tp is, .Tuple es _ _ => decide (is.length = es.length) && ((is.zip es).all fun p => match p.2 with
    | .Name x _ => decide (c.N[p.1]? = some x) && isLoc fl sc x
    | _ => false)
  | _, _ => false
mutual
def chkE : DE → Ctx → Expr → Bool
  | .var i, c, e => match e with
    | .Name x _ => decide (c.N[i]? = some x) && isVis c.sc x && okName x
    | _ => false
  | .glob y n, c, e => match e with
    | .Name x _ => decide (x = y) && isGl c.sc x && okName x && decide ((x, n) ∈ c.p.gints)
    | _ => false
  | .int n, _, e => match e with
    | .Constant (.int m) _ _ => decide (n = m)
    | _ => false
  | .bl n, _, e => match e with
    | .Constant (.bool m) _ _ => decide (n = m)
    | _ => false
  | .str n, _, e => match e with
    | .Constant (.str m) _ _ => decide (n = m)
    | _ => false
  | .non, _, e => match e with
    | .Constant .none _ _ => true
    | _ => false
  | .bin o a b, c, e => match e with
    | .BinOp x op y _ => decide (op = opOf o) && chkE a c x && chkE b c y
    | _ => false
  | .neg a, c, e => match e with
    | .UnaryOp .USub x _ => chkE a c x
    | _ => false
  | .not a, c, e => match e with
    | .UnaryOp .Not x _ => chkE a c x && notIfe a
    | _ => false
  | .and es, c, e => match e with
    | .BoolOp .And xs _ => chkB es c xs
    | _ => false
  | .or es, c, e => match e with
    | .BoolOp .Or xs _ => chkB es c xs
    | _ => false
  | .cmp o a b, c, e => match e with
    | .Compare x [op] [y] _ => decide (op = coOf o) && chkE a c x && chkE b c y
    | _ => false
  | .chain o1 o2 a b d, c, e => match e with
    | .Compare x [p, q] [y, z] _ => decide (p = coOf o1) && decide (q = coOf o2) && chkE a c x && chkE b c y && chkE d c z
    | _ => false
  | .isN n a, c, e => match e with
    | .Compare x [op] [.Constant .none _ _] _ => decide (op = if n then .IsNot else .Is) && chkE a c x
    | _ => false
  | .isB n a b, c, e => match e with
    | .Compare x [op] [.Constant (.bool b') _ _] _ => decide (op = if n then .IsNot else .Is) && decide (b = b') && chkE a c x
    | _ => false
  | .ife t a b, c, e => match e with
    | .IfExp z x y _ => chkE t c z && notIfe t && chkE a c x && chkE b c y
    | _ => false
  | .tup es, c, e => match e with
    | .Tuple xs _ _ => chkEs es c xs
    | _ => false
  | .lst es, c, e => match e with
    | .List xs _ => chkEs es c xs
    | _ => false
  | .dic0, _, e => match e with
    | .Dict [] [] _ => true
    | _ => false
  | .ix a i, c, e => match e with
    | .Subscript x y _ => chkE a c x && chkE i c y
    | _ => false
  | .slice a lo hi, c, e => match e with
    | .Subscript x (.Slice l h none _) _ => chkE a c x && chkO lo c l && chkO hi c h
    | _ => false
  | .revs a, c, e => match e with
    | .Subscript x (.Slice none none (some (.UnaryOp .USub (.Constant (.int m) _ _) _)) _) _ => decide (m = 1) && chkE a c x
    | _ => false
  | .bi b es, c, e => match e with
    | .Call (.Name f _) (x :: r) [] _ => decide (f = biS b) && isGl c.sc f && chkEs es c (x :: r)
    | _ => false
  | .isi a t, c, e => match e with
    | .Call (.Name f _) [x, .Name y _] [] _ => decide (f = ("isinstance" : Str)) && isGl c.sc f && decide (y = tyS t) && isGl c.sc y && chkE a c x
    | _ => false
  | .meth m a es, c, e => match e with
    | .Call (.Attribute x n apos) (y :: r) [] pos => decide (n = mtN m) && chkE a c x && chkEs es c (y :: r) && notCall0 x && (apos.endLine == pos.line) && decide (r.length < 20)
    | _ => false
  | .call k es, c, e => match e with
    | .Call (.Name f _) xs [] _ => decide ((k, f, xs.length) ∈ c.p.fns) && isGl c.sc f && okName f && chkEs es c xs
    | _ => false
  | .lc src tgt own cond elt, c, e => match e with
    | .ListComp x [⟨tg, it, ifs, isA⟩] scope _ => decide (isA = 0) && blkC c.N c.sc scope own && chkS src c tg it && chkT false tgt c (relS scope c.sc) tg && (tgt.slots.all fun i => (own.map (·.2)).contains i) && chkI cond { c with sc := relS scope c.sc } ifs && chkE elt { c with sc := relS scope c.sc } x
    | _ => false
  | .orT a b, c, e => match e with
    | .BoolOp .Or [x, y] _ => chkE a c x && chkE b c y
    | _ => false
  | .setf b a, c, e => match e with
    | .Call (.Name f _) [.Call (.Name g _) [x] [] _] [] _ => decide (f = biS (setB b)) && decide (g = ("set" : Str)) && isGl c.sc f && isGl c.sc g && chkE a c x
    | _ => false
  | .srtI a, c, e => match e with
    | .Call (.Name f _) [.Call (.Attribute x n apos) [] [] cpos] [] _ => decide (f = ("sorted" : Str)) && decide (n = ("items" : Str)) && isGl c.sc f && chkE a c x && notCall0 x && (apos.endLine == cpos.line)
    | _ => false
  | .lrng a b, c, e => match e with
    | .Call (.Name f _) [.Call (.Name g _) [x, y] [] _] [] _ => decide (f = ("list" : Str)) && decide (g = ("range" : Str)) && isGl c.sc f && isGl c.sc g && chkE a c x && chkE b c y
    | _ => false
def chkEs : DEs → Ctx → List Expr → Bool
  | .nil, _, es => match es with
    | [] => true
    | _ => false
  | .cons d ds, c, es => match es with
    | x :: r => chkE d c x && chkEs ds c r
    | _ => false
def chkB : DEs → Ctx → List Expr → Bool
  | .nil, _, _ => false
  | .cons d ds, c, es => match es with
    | [x] => chkE d c x && notIfe d && (match ds with | .nil => true | _ => false)
    | x :: y :: r => chkE d c x && notIfe d && chkB ds c (y :: r)
    | _ => false
def chkO : DO → Ctx → Option Expr → Bool
  | .none, _, e => match e with
    | none => true
    | _ => false
  | .some d, c, e => match e with
    | some x => chkE d c x
    | none => false
def chkI : DO → Ctx → List Expr → Bool
  | .none, _, e => match e with
    | [] => true
    | _ => false
  | .some d, c, e => match e with
    | [x] => chkE d c x && notIfe d
    | _ => false
def chkS : DSrc → Ctx → Expr → Expr → Bool
  | .seq a, c, _, e => chkE a c e
  | .rng1 a, c, _, e => match e with
    | .Call (.Name f _) [x] [] _ => decide (f = ("range" : Str)) && isGl c.sc f && chkE a c x
    | _ => false
  | .rng2 a b, c, _, e => match e with
    | .Call (.Name f _) [x, y] [] _ => decide (f = ("range" : Str)) && isGl c.sc f && chkE a c x && chkE b c y
    | _ => false
  | .enum a, c, tg, e => match tg, e with
    | .Tuple _ _ _, .Call (.Name f _) [x] [] _ => decide (f = ("enumerate" : Str)) && isGl c.sc f && chkE a c x
    | _, _ => false
  | .zip a b, c, tg, e => match tg, e with
    | .Tuple _ _ _, .Call (.Name f _) [x, y] [] _ => decide (f = ("zip" : Str)) && isGl c.sc f && chkE a c x && chkE b c y
    | _, _ => false
end

/-! what is checked is of a plain form -/
def plainX : Expr → Bool
  | .Starred _ _ => false
  | .Slice _ _ _ _ => false
  | .Set _ _ _ => false
  | .SetComp _ _ _ _ => false
  | .DictComp _ _ _ _ _ => false
  | _ => true
theorem chk_plain {d : DE} {c : Ctx} {e : Expr} (h : chkE d c e = true) : plainX e = true := by
  cases e <;> first
    | rfl
    | (exfalso; cases d <;> simp [chkE] at h)
theorem star_plain {e : Expr} (h : plainX e = true) (r : List Expr) (env : Env) : starEach (e :: r) env = (false, eval e env) :: starEach r env := by
  cases e <;> first
    | rfl
    | cases h
theorem ix_plain {e : Expr} (h : plainX e = true) : PlainIx e := by
  cases e <;> first
    | (exact fun _ _ => rfl)
    | cases h
theorem set_plain {e : Expr} (h : plainX e = true) (env : Env) (x : Value) : foldedSetIterable e env x = pure x := by
  cases e <;> first
    | rfl
    | cases h
theorem mark_plain {e : Expr} (h : plainX e = true) (op : CmpOp) : behindInMarks op e = false := by
  cases e <;> first
    | rfl
    | cases h
theorem base_plain {e : Expr} (h : notCall0 e = true) (m : Str) (env : Env) (w : Sem Value) : attributeBase e m env w = w := by
  cases e <;> first
    | rfl
    | skip
  rename_i f as ks p
  cases as with
  | nil =>
    cases ks with
    | nil => cases h
    | cons k ks => cases f <;> rfl
  | cons a as => cases f <;> rfl
theorem chks_plain : ∀ {ds : DEs} {c : Ctx} {es : List Expr}, chkEs ds c es = true → ∀ e ∈ es, plainX e = true
  | .nil, c, [], _, e, m => by cases m
  | .nil, c, _ :: _, h, _, _ => by simp [chkEs] at h
  | .cons d ds, c, [], h, _, _ => by simp [chkEs] at h
  | .cons d ds, c, x :: r, h, e, m => by
    have h : chkE d c x = true ∧ chkEs ds c r = true := by simpa [chkEs] using h
    rcases List.mem_cons.mp m with q | m
    · subst q; exact chk_plain h.1
    · exact chks_plain h.2 e m
theorem back_any {pos : Pos} {env : Env} : ∀ {es : List Expr}, (∀ e ∈ es, plainX e = true) → (backTo pos (starEach es env)).any (·.1) = false
  | [], _ => rfl
  | e :: es, h => by
    rw [star_plain (h e List.mem_cons_self)]
    show (false || (backTo pos (starEach es env)).any (·.1)) = false
    rw [back_any fun x m => h x (List.mem_cons_of_mem _ m)]
    rfl
theorem back_all {pos : Pos} {env : Env} : ∀ {es : List Expr}, (∀ e ∈ es, plainX e = true) → (backTo pos (starEach es env)).all (fun x => !x.1) = true
  | [], _ => rfl
  | e :: es, h => by
    rw [star_plain (h e List.mem_cons_self)]
    show (true && (backTo pos (starEach es env)).all (fun x => !x.1)) = true
    rw [back_all fun x m => h x (List.mem_cons_of_mem _ m)]
    rfl
theorem vis_of {sc : Scope} {x : Str} (h : isVis sc x = true) : Vis sc x := by
  unfold isVis at h
  unfold Vis
  split at h
  · rename_i e; exact .inl e
  · rename_i e; exact .inr (.inl e)
  · rename_i e; exact .inr (.inr e)
  · cases h
theorem local_of {sc : Scope} {x : Str} (h : isLocal sc x = true) : sc.names.lookup x = some .local := by
  unfold isLocal at h
  split at h
  · assumption
  · cases h
theorem loc_of {fl : Bool} {sc : Scope} {x : Str} (h : isLoc fl sc x = true) : sc.names.lookup x = some .local ∨ (fl = true ∧ sc.names.lookup x = some .cell) := by
  unfold isLoc at h
  split at h
  · rename_i e; exact .inl e
  · rename_i e; exact .inr ⟨h, e⟩
  · cases h
theorem gl_of {sc : Scope} {x : Str} (h : isGl sc x = true) : sc.names.lookup x = some .globalImplicit := by
  unfold isGl at h
  split at h
  · assumption
  · cases h
theorem okName_of {x : Str} (h : okName x = true) : (x == ("__debug__" : Str)) = false ∧ (x == ("__classdict__" : Str)) = false := by simpa [okName] using h
theorem len_chk : ∀ {ds : DEs} {c : Ctx} {es : List Expr}, chkEs ds c es = true → ds.len = es.length
  | .nil, c, [], _ => rfl
  | .nil, c, _ :: _, h => by simp [chkEs] at h
  | .cons d ds, c, [], h => by simp [chkEs] at h
  | .cons d ds, c, x :: r, h => by
    have h : chkE d c x = true ∧ chkEs ds c r = true := by simpa [chkEs] using h
    show ds.len + 1 = r.length + 1
    rw [len_chk h.2]
theorem XOk.blk {c : Ctx} {C : Call} {n : Nat} {ca : CA} {X : Cx} {W : WX} (h : XOk c C n ca X W) (scope : Scope) (s : Shared) (H : Hp) (a : Addr) (cl : List (Str × Addr)) (fp : List Addr) :
    XOk { c with sc := relS scope c.sc } C n ca (X.blk s H scope (compEnvC scope cl a X.env) fp) W0 :=
  ⟨h.hN, h.nd, by show relS scope X.env.scope = _; rw [h.sc], h.calm, takes0, h.room, h.fns, h.gints, h.blt⟩
theorem XOk.gl {c : Ctx} {C : Call} {n : Nat} {ca : CA} {X : Cx} {W : WX} (h : XOk c C n ca X W) {x : Str} (g : isGl c.sc x = true) : Gl X x := by
  show X.env.scope.names.lookup x = _
  rw [h.sc]; exact gl_of g
theorem room_65 {n : Nat} {A : Around} (r : Room n A) : A.units + 65 < cLine := by have := r.un; omega
/-- a name that may be stored: local, or a cell where cells are one's own -/
def Sto (X : Cx) (x : Str) : Prop := X.env.scope.names.lookup x = some .local ∨ (X.fn x = true ∧ X.env.scope.names.lookup x = some .cell)
theorem Sto.loc {X : Cx} {x : Str} (h : Sto X x) : Loc X.env.scope x := by
  rcases h with h | ⟨_, h⟩
  · exact .inl h
  · exact .inr h
theorem Sto.fn {X : Cx} {x : Str} (h : Sto X x) : X.fn x = true ∨ X.env.scope.names.lookup x = some .local := by
  rcases h with h | ⟨h, _⟩
  · exact .inr h
  · exact .inl h
theorem sto_of {X : Cx} {fl : Bool} {sc : Scope} {x : Str} (hsc : X.env.scope = sc) (hf : fl = true → ∀ x, X.fn x = true) (h : isLoc fl sc x = true) : Sto X x := by
  rcases loc_of h with h | ⟨e, h⟩
  · exact .inl (by rw [hsc]; exact h)
  · exact .inr ⟨hf e x, by rw [hsc]; exact h⟩
/-- targets -/
theorem pg_names {X : Cx} (nd : X.N.Nodup) : ∀ (is : List Nat) (es : List Expr), is.length = es.length → (∀ i e, (i, e) ∈ is.zip es → ∃ x p, e = .Name x p ∧ X.N[i]? = some x ∧ Sto X x) →
    PGs X es (gNames is) ∧ (assignEach es X.env).length = is.length ∧ (assignEach es X.env).findIdx? (·.1) = none
  | [], [], _, _ => ⟨pgs_nil, rfl, rfl⟩
  | i :: is, e :: es, hl, h => by
    obtain ⟨x, p, rfl, h1, h2⟩ := h i e List.mem_cons_self
    obtain ⟨g1, g2, g3⟩ := pg_names nd is es (by simpa using hl) fun j e' m => h j e' (List.mem_cons_of_mem _ m)
    refine ⟨pgs_cons (pg_name nd h1 h2.loc h2.fn) g1, congrArg (· + 1) g2, ?_⟩
    show ((false, _) :: assignEach es X.env).findIdx? (·.1) = none
    rw [List.findIdx?_cons, if_neg (by simp), g3]
    rfl
theorem tgt_names {fl : Bool} {is : List Nat} {c : Ctx} {sc : Scope} {es : List Expr} {X : Cx} (hN : X.N = c.N) (hsc : X.env.scope = sc) (hf : fl = true → ∀ x, X.fn x = true) (h : ((is.zip es).all fun p => match p.2 with
    | .Name x _ => decide (c.N[p.1]? = some x) && isLoc fl sc x
    | _ => false) = true) : ∀ i e, (i, e) ∈ is.zip es → ∃ x p, e = .Name x p ∧ X.N[i]? = some x ∧ Sto X x := fun i e m => by
  have q := List.all_eq_true.mp h (i, e) m
  cases e <;> simp only at q <;> try cases q
  rename_i x p
  simp only [Bool.and_eq_true, decide_eq_true_eq] at q
  exact ⟨x, p, rfl, by rw [hN]; exact q.1, sto_of hsc hf q.2⟩
theorem pg_tgt {fl : Bool} {t : Tgt} {c : Ctx} {sc : Scope} {tg : Expr} {X : Cx} (hN : X.N = c.N) (nd : c.N.Nodup) (hc : X.calm = true) (hsc : X.env.scope = sc) (hf : fl = true → ∀ x, X.fn x = true) (h : chkT fl t c sc tg = true) : PG X tg (gOf X.K t) := by
  have nd' : X.N.Nodup := by rw [hN]; exact nd
  cases t with
  | nm i =>
    cases tg <;> simp only [chkT] at h <;> try cases h
    rename_i x p
    simp only [Bool.and_eq_true, decide_eq_true_eq] at h
    have hl := sto_of hsc hf h.2
    exact pg_name nd' (by rw [hN]; exact h.1) hl.loc hl.fn
  | tp is =>
    cases tg <;> simp only [chkT] at h <;> try cases h
    rename_i es k p
    simp only [Bool.and_eq_true, decide_eq_true_eq] at h
    obtain ⟨g1, g2, g3⟩ := pg_names nd' is es h.1 (tgt_names hN hsc hf h.2)
    exact pg_tup hc g1 g2 g3
end DL

/-! DL10: what is checked is sound: expressions. -/
namespace DL
open PySem L2
section
variable {C : Call} {n : Nat} {ca : CA}
/-- the general test -/
theorem st_of {X : Cx} {W : WX} {d : DE} {e : Expr} (h : SE C ca X W d e) (he : ∀ whole, isTrue e X.env whole = (do let v ← whole; standAt e.pos; holding [v] (truthy v))) : SE C ca X W d e ∧ (notIfe d = true → ST C ca X W d e) := ⟨h, fun _ => ST.of h he⟩
theorem both {X : Cx} {W : WX} {d : DE} {e : Expr} (h : SE C ca X W d e ∧ ST C ca X W d e) : SE C ca X W d e ∧ (notIfe d = true → ST C ca X W d e) := ⟨h.1, fun _ => h.2⟩
theorem src_plain {d : DSrc} {c : Ctx} {tg e : Expr} (h : chkS d c tg e = true) (env : Env) (x : Value) : foldedSetIterable e env x = pure x := by
  cases d with
  | seq a => exact set_plain (chk_plain (by simpa only [chkS] using h)) env x
  | _ =>
    refine set_plain ?_ env x
    cases e <;> first
      | rfl
      | (exfalso; cases tg <;> simp [chkS] at h)
mutual
theorem snd_E : ∀ (d : DE) (c : Ctx) (X : Cx) (W : WX) (e : Expr), XOk c C n ca X W → chkE d c e = true → SE C ca X W d e ∧ (notIfe d = true → ST C ca X W d e)
  | .var i, c, X, W, e, hX, h => by
    simp only [chkE] at h
    split at h
    · simp only [Bool.and_eq_true, decide_eq_true_eq] at h
      obtain ⟨h1, h2⟩ := okName_of h.2
      exact st_of (c_var (by rw [hX.hN]; exact h.1.1) (by rw [hX.sc]; exact vis_of h.1.2) h1 h2) fun _ => rfl
    · cases h
  | .glob y n, c, X, W, e, hX, h => by
    simp only [chkE] at h
    split at h
    · simp only [Bool.and_eq_true, decide_eq_true_eq] at h
      obtain ⟨⟨⟨h0, h1⟩, h2⟩, h3⟩ := h
      subst h0
      obtain ⟨t, ht⟩ := hX.gints _ _ h3
      exact st_of (c_glob (hX.gl h1) ht (okName_of h2).1) fun _ => rfl
    · cases h
  | .int n, c, X, W, e, hX, h => by
    simp only [chkE] at h
    split at h
    · simp only [decide_eq_true_eq] at h
      subst h
      exact st_of (c_const pe_int (fun s => by simp only [evalE]) fun _ _ => .int _) fun _ => rfl
    · cases h
  | .bl n, c, X, W, e, hX, h => by
    simp only [chkE] at h
    split at h
    · simp only [decide_eq_true_eq] at h
      subst h
      exact st_of (c_const pe_bl (fun s => by simp only [evalE]) fun _ _ => .bl _) fun _ => rfl
    · cases h
  | .str n, c, X, W, e, hX, h => by
    simp only [chkE] at h
    split at h
    · simp only [decide_eq_true_eq] at h
      subst h
      exact st_of (c_const pe_str (fun s => by simp only [evalE]) fun _ _ => .str _) fun _ => rfl
    · cases h
  | .non, c, X, W, e, hX, h => by
    simp only [chkE] at h
    split at h
    · exact st_of (c_const pe_non (fun s => by simp only [evalE]) fun _ _ => .non) fun _ => rfl
    · cases h
  | .bin o a b, c, X, W, e, hX, h => by
    simp only [chkE] at h
    split at h
    · simp only [Bool.and_eq_true, decide_eq_true_eq] at h
      obtain ⟨⟨h0, h1⟩, h2⟩ := h
      subst h0
      exact st_of (c_op (b_all o) (snd_E a c X W _ hX h1).1 (snd_E b c X W _ hX h2).1) fun _ => rfl
    · cases h
  | .neg a, c, X, W, e, hX, h => by
    simp only [chkE] at h
    split at h
    · exact st_of (c_neg (snd_E a c X W _ hX h).1) fun _ => rfl
    · cases h
  | .not a, c, X, W, e, hX, h => by
    simp only [chkE] at h
    split at h
    · simp only [Bool.and_eq_true] at h
      have q := snd_E a c X W _ hX h.1
      exact both (c_not q.1 (q.2 h.2))
    · cases h
  | .and es, c, X, W, e, hX, h => by
    simp only [chkE] at h
    split at h
    · rename_i xs p
      obtain ⟨q, _⟩ := snd_B es c X W xs hX h
      obtain ⟨t, pt, it⟩ := q.v p
      obtain ⟨u, pu, iu⟩ := q.t p
      exact both ⟨⟨t, pt, fun Γ σ H s Q R w => it Γ σ H s Q R (by simpa only [evalE] using w)⟩, ⟨u, pu.pt, fun Γ σ H s Q R w => iu Γ σ H s Q R (by simpa only [evalE] using w)⟩⟩
    · cases h
  | .or es, c, X, W, e, hX, h => by
    simp only [chkE] at h
    split at h
    · rename_i xs p
      obtain ⟨_, q⟩ := snd_B es c X W xs hX h
      obtain ⟨t, pt, it⟩ := q.v p
      obtain ⟨u, pu, iu⟩ := q.t p
      exact both ⟨⟨t, pt, fun Γ σ H s Q R w => it Γ σ H s Q R (by simpa only [evalE] using w)⟩, ⟨u, pu.pt, fun Γ σ H s Q R w => iu Γ σ H s Q R (by simpa only [evalE] using w)⟩⟩
    · cases h
  | .cmp o a b, c, X, W, e, hX, h => by
    simp only [chkE] at h
    split at h
    · simp only [Bool.and_eq_true, decide_eq_true_eq] at h
      obtain ⟨⟨h0, h1⟩, h2⟩ := h
      subst h0
      exact both (c_cmp (c_all (room_65 hX.room) o) (snd_E a c X W _ hX h1).1 (snd_E b c X W _ hX h2).1 (mark_plain (chk_plain h2) _))
    · cases h
  | .chain o1 o2 a b d, c, X, W, e, hX, h => by
    simp only [chkE] at h
    split at h
    · simp only [Bool.and_eq_true, decide_eq_true_eq] at h
      obtain ⟨⟨⟨⟨h0, h00⟩, h1⟩, h2⟩, h3⟩ := h
      subst h0
      subst h00
      exact both (c_chain (c_all (room_65 hX.room) o1) (c_all (room_65 hX.room) o2) (snd_E a c X W _ hX h1).1 (snd_E b c X W _ hX h2).1 (snd_E d c X W _ hX h3).1 (mark_plain (chk_plain h3) _))
    · cases h
  | .isN n a, c, X, W, e, hX, h => by
    simp only [chkE] at h
    split at h
    · simp only [Bool.and_eq_true, decide_eq_true_eq] at h
      obtain ⟨h0, h1⟩ := h
      subst h0
      exact both (c_isN (snd_E a c X W _ hX h1).1)
    · cases h
  | .isB n a b, c, X, W, e, hX, h => by
    simp only [chkE] at h
    split at h
    · simp only [Bool.and_eq_true, decide_eq_true_eq] at h
      obtain ⟨⟨h0, h00⟩, h1⟩ := h
      subst h0
      subst h00
      exact both (c_isB (snd_E a c X W _ hX h1).1)
    · cases h
  | .ife t a b, c, X, W, e, hX, h => by
    simp only [chkE] at h
    split at h
    · simp only [Bool.and_eq_true] at h
      obtain ⟨⟨⟨h0, h1⟩, h2⟩, h3⟩ := h
      exact ⟨c_ife ((snd_E t c X W _ hX h0).2 h1) (snd_E a c X W _ hX h2).1 (snd_E b c X W _ hX h3).1, fun q => by cases q⟩
    · cases h
  | .tup es, c, X, W, e, hX, h => by
    simp only [chkE] at h
    split at h
    · exact st_of (c_tup (snd_Es es c X W _ hX h).2) fun _ => rfl
    · cases h
  | .lst es, c, X, W, e, hX, h => by
    simp only [chkE] at h
    split at h
    · exact st_of (c_lst (snd_Es es c X W _ hX h).2) fun _ => rfl
    · cases h
  | .dic0, c, X, W, e, hX, h => by
    simp only [chkE] at h
    split at h
    · exact st_of c_dic0 fun _ => rfl
    · cases h
  | .ix a i, c, X, W, e, hX, h => by
    simp only [chkE] at h
    split at h
    · simp only [Bool.and_eq_true] at h
      exact st_of (c_ix (by have := room_65 hX.room; omega) (snd_E a c X W _ hX h.1).1 (snd_E i c X W _ hX h.2).1 (ix_plain (chk_plain h.2))) fun _ => rfl
    · cases h
  | .slice a lo hi, c, X, W, e, hX, h => by
    simp only [chkE] at h
    split at h
    · simp only [Bool.and_eq_true] at h
      exact st_of (c_slice (snd_E a c X W _ hX h.1.1).1 (snd_O lo c X W _ hX h.1.2) (snd_O hi c X W _ hX h.2)) fun _ => rfl
    · cases h
  | .revs a, c, X, W, e, hX, h => by
    simp only [chkE] at h
    split at h
    · simp only [Bool.and_eq_true, decide_eq_true_eq] at h
      obtain ⟨h0, h1⟩ := h
      subst h0
      exact st_of (c_revs (snd_E a c X W _ hX h1).1) fun _ => rfl
    · cases h
  | .bi b es, c, X, W, e, hX, h => by
    simp only [chkE] at h
    split at h
    · simp only [Bool.and_eq_true, decide_eq_true_eq] at h
      obtain ⟨⟨h0, h1⟩, h2⟩ := h
      subst h0
      have pl := chks_plain h2
      exact st_of (c_bi hX.calm (snd_Es es c X W _ hX h2).1 (hX.gl h1) (hX.blt _ (by cases b <;> decide +kernel)) (star_plain (pl _ List.mem_cons_self) _ _) (back_any fun e m => pl e (List.mem_cons_of_mem _ m))) fun _ => rfl
    · cases h
  | .isi a t, c, X, W, e, hX, h => by
    simp only [chkE] at h
    split at h
    · simp only [Bool.and_eq_true, decide_eq_true_eq] at h
      obtain ⟨⟨⟨⟨h0, h1⟩, h00⟩, h2⟩, h3⟩ := h
      subst h0
      subst h00
      exact st_of (c_isi (snd_E a c X W _ hX h3).1 (hX.gl h1) (hX.blt _ (by decide +kernel)) (hX.gl h2) (hX.blt _ (by cases t <;> decide +kernel)) (star_plain (chk_plain h3) _ _)) fun _ => rfl
    · cases h
  | .meth m a es, c, X, W, e, hX, h => by
    simp only [chkE] at h
    split at h
    · rename_i x nm apos y r pos
      simp only [Bool.and_eq_true, decide_eq_true_eq] at h
      obtain ⟨⟨⟨⟨⟨h0, h1⟩, h2⟩, h3⟩, h4⟩, h5⟩ := h
      subst h0
      have pl := chks_plain h2
      refine st_of (c_meth (by have := room_65 hX.room; omega) (snd_E a c X W _ hX h1).1 (snd_Es es c X W _ hX h2).2 (base_plain h3 _ _ _) ?_ h4 (star_plain (pl _ List.mem_cons_self) _ _) (back_any fun e m => pl e (List.mem_cons_of_mem _ m))) fun _ => rfl
      rw [back_all pl]
      show (true && true && decide ((y :: r).length + 0 + 0 < 30)) = true
      simp only [Bool.true_and, decide_eq_true_eq, List.length_cons]
      omega
    · cases h
  | .call k es, c, X, W, e, hX, h => by
    simp only [chkE] at h
    split at h
    · rename_i f p xs pos
      simp only [Bool.and_eq_true, decide_eq_true_eq] at h
      obtain ⟨⟨⟨h0, h1⟩, h2⟩, h3⟩ := h
      have pl := chks_plain h3
      obtain ⟨fa, fd, ps, e1, e2, e3, e4, e5⟩ := hX.fns _ _ _ h0
      have hl := len_chk h3
      cases xs with
      | nil =>
        cases es with
        | cons _ _ => cases hl
        | nil => exact st_of (c_call0 hX.tk e5 hX.room (hX.gl h1) e2 e3 e4 (okName_of h2).1) fun _ => rfl
      | cons x r => exact st_of (c_call hX.tk e5 hX.room (hX.gl h1) e2 e3 e4 (okName_of h2).1 (snd_Es es c X W _ hX h3).1 hl (star_plain (pl _ List.mem_cons_self) _ _) (back_any fun e m => pl e (List.mem_cons_of_mem _ m))) fun _ => rfl
    · cases h
  | .lc src tgt own cond elt, c, X, W, e, hX, h => by
    simp only [chkE] at h
    split at h
    · rename_i x tg it ifs isA scope p
      simp only [Bool.and_eq_true, decide_eq_true_eq] at h
      obtain ⟨⟨⟨⟨⟨⟨h0, h1⟩, h2⟩, h3⟩, h4⟩, h5⟩, h6⟩ := h
      subst h0
      have h4' : ∀ i ∈ tgt.slots, i ∈ own.map (·.2) := fun i m => by simpa using List.all_eq_true.mp h4 i m
      refine st_of (c_lc hX.calm (by rw [hX.hN]; exact hX.nd) (snd_S src c X W tg it hX h2) h4' (by rw [hX.hN, hX.sc]; exact blkOk_by h1) (fun s H a cl fp => ?_) (fun s H a cl fp => ?_) (fun s H a cl fp => ?_) (fun x => ?_)) fun _ => rfl
      · have hB := hX.blk scope s H a cl fp
        exact pg_tgt (fl := false) (t := tgt) (c := c) hB.hN hX.nd hB.calm hB.sc (fun z => by cases z) h3
      · exact snd_I cond _ _ ifs (hX.blk scope s H a cl fp) h5
      · exact (snd_E elt _ _ W0 x (hX.blk scope s H a cl fp) h6).1.pe
      · exact src_plain h2 X.env x
    · cases h
  | .orT a b, c, X, W, e, hX, h => by
    simp only [chkE] at h
    split at h
    · simp only [Bool.and_eq_true] at h
      exact ⟨c_orT (snd_E a c X W _ hX h.1).1 (snd_E b c X W _ hX h.2).1, fun q => by cases q⟩
    · cases h
  | .setf b a, c, X, W, e, hX, h => by
    simp only [chkE] at h
    split at h
    · simp only [Bool.and_eq_true, decide_eq_true_eq] at h
      obtain ⟨⟨⟨⟨h0, h00⟩, h1⟩, h2⟩, h3⟩ := h
      subst h0
      subst h00
      exact st_of (c_setf hX.calm (hX.gl h1) (hX.blt _ (by cases b <;> decide +kernel)) (hX.gl h2) (hX.blt _ (by decide +kernel)) (snd_E a c X W _ hX h3).1 (star_plain (chk_plain h3) _ _)) fun _ => rfl
    · cases h
  | .srtI a, c, X, W, e, hX, h => by
    simp only [chkE] at h
    split at h
    · simp only [Bool.and_eq_true, decide_eq_true_eq] at h
      obtain ⟨⟨⟨⟨⟨h0, h00⟩, h1⟩, h2⟩, h3⟩, h4⟩ := h
      subst h0
      subst h00
      exact st_of (c_srtI hX.calm (hX.gl h1) (hX.blt _ (by decide +kernel)) (snd_E a c X W _ hX h2).1 (base_plain h3 _ _ _) h4) fun _ => rfl
    · cases h
  | .lrng a b, c, X, W, e, hX, h => by
    simp only [chkE] at h
    split at h
    · simp only [Bool.and_eq_true, decide_eq_true_eq] at h
      obtain ⟨⟨⟨⟨⟨h0, h00⟩, h1⟩, h2⟩, h3⟩, h4⟩ := h
      subst h0
      subst h00
      exact st_of (c_lrng hX.calm (hX.gl h1) (hX.blt _ (by decide +kernel)) (hX.gl h2) (hX.blt _ (by decide +kernel)) (snd_E a c X W _ hX h3).1 (snd_E b c X W _ hX h4).1 (star_plain (chk_plain h3) _ _) (star_plain (chk_plain h4) _ _)) fun _ => rfl
    · cases h
theorem snd_Es : ∀ (ds : DEs) (c : Ctx) (X : Cx) (W : WX) (es : List Expr), XOk c C n ca X W → chkEs ds c es = true → SA C ca X W ds es ∧ SZ C ca X W ds es
  | .nil, c, X, W, es, hX, h => by
    simp only [chkEs] at h
    split at h
    · exact ⟨sa_nil, sz_nil⟩
    · cases h
  | .cons d ds, c, X, W, es, hX, h => by
    simp only [chkEs] at h
    split at h
    · simp only [Bool.and_eq_true] at h
      have a := (snd_E d c X W _ hX h.1).1
      have b := snd_Es ds c X W _ hX h.2
      have q := star_plain (chk_plain h.1)
      exact ⟨sa_cons a b.1 (q _ _), sz_cons a b.2 (q _ _)⟩
    · cases h
theorem snd_B : ∀ (ds : DEs) (c : Ctx) (X : Cx) (W : WX) (es : List Expr), XOk c C n ca X W → chkB ds c es = true → SB C ca X W (evalAnd C) .And ds es ∧ SB C ca X W (evalOr C) .Or ds es
  | .nil, c, X, W, es, hX, h => by simp [chkB] at h
  | .cons d ds, c, X, W, es, hX, h => by
    simp only [chkB] at h
    split at h
    · simp only [Bool.and_eq_true] at h
      obtain ⟨⟨h1, h2⟩, h3⟩ := h
      cases ds with
      | cons _ _ => cases h3
      | nil =>
        have q := snd_E d c X W _ hX h1
        exact ⟨sb_and1 q.1 (q.2 h2), sb_or1 q.1 (q.2 h2)⟩
    · simp only [Bool.and_eq_true] at h
      obtain ⟨⟨h1, h2⟩, h3⟩ := h
      have q := snd_E d c X W _ hX h1
      have b := snd_B ds c X W _ hX h3
      cases ds with
      | nil => simp [chkB] at h3
      | cons d2 ds2 => exact ⟨sb_and q.1 (q.2 h2) b.1, sb_or q.1 (q.2 h2) b.2⟩
    · cases h
theorem snd_O : ∀ (d : DO) (c : Ctx) (X : Cx) (W : WX) (e : Option Expr), XOk c C n ca X W → chkO d c e = true → SO C ca X W d e
  | .none, c, X, W, e, hX, h => by
    simp only [chkO] at h
    split at h
    · exact so_none
    · cases h
  | .some d, c, X, W, e, hX, h => by
    simp only [chkO] at h
    split at h
    · exact so_some (snd_E d c X W _ hX h).1
    · cases h
theorem snd_I : ∀ (d : DO) (c : Ctx) (X : Cx) (es : List Expr), XOk c C n ca X W0 → chkI d c es = true → PTs X es (tC C ca X.K d)
  | .none, c, X, es, hX, h => by
    simp only [chkI] at h
    split at h
    · exact pts_nil
    · cases h
  | .some d, c, X, es, hX, h => by
    simp only [chkI] at h
    split at h
    · simp only [Bool.and_eq_true] at h
      exact pts_one ((snd_E d c X W0 _ hX h.1).2 h.2).pt
    · cases h
theorem snd_S : ∀ (d : DSrc) (c : Ctx) (X : Cx) (W : WX) (tg e : Expr), XOk c C n ca X W → chkS d c tg e = true → SI C ca X W d tg e
  | .seq a, c, X, W, tg, e, hX, h => by
    simp only [chkS] at h
    exact si_seq (snd_E a c X W _ hX h).1
  | .rng1 a, c, X, W, tg, e, hX, h => by
    simp only [chkS] at h
    split at h
    · simp only [Bool.and_eq_true, decide_eq_true_eq] at h
      obtain ⟨⟨h0, h1⟩, h2⟩ := h
      subst h0
      exact si_rng1 (snd_E a c X W _ hX h2).1 (hX.gl h1) (hX.blt _ (by decide +kernel)) (star_plain (chk_plain h2) _ _)
    · cases h
  | .rng2 a b, c, X, W, tg, e, hX, h => by
    simp only [chkS] at h
    split at h
    · simp only [Bool.and_eq_true, decide_eq_true_eq] at h
      obtain ⟨⟨⟨h0, h1⟩, h2⟩, h3⟩ := h
      subst h0
      have q := star_plain (chk_plain h3) [] X.env
      exact si_rng2 (snd_E a c X W _ hX h2).1 (snd_E b c X W _ hX h3).1 (hX.gl h1) (hX.blt _ (by decide +kernel)) (by rw [star_plain (chk_plain h2), q]; rfl) q
    · cases h
  | .enum a, c, X, W, tg, e, hX, h => by
    simp only [chkS] at h
    split at h
    · simp only [Bool.and_eq_true, decide_eq_true_eq] at h
      obtain ⟨⟨h0, h1⟩, h2⟩ := h
      subst h0
      exact si_enum (snd_E a c X W _ hX h2).1 (hX.gl h1) (hX.blt _ (by decide +kernel)) (star_plain (chk_plain h2) _ _)
    · cases h
  | .zip a b, c, X, W, tg, e, hX, h => by
    simp only [chkS] at h
    split at h
    · simp only [Bool.and_eq_true, decide_eq_true_eq] at h
      obtain ⟨⟨⟨h0, h1⟩, h2⟩, h3⟩ := h
      subst h0
      have q := star_plain (chk_plain h3) [] X.env
      exact si_zip (snd_E a c X W _ hX h2).1 (snd_E b c X W _ hX h3).1 (hX.gl h1) (hX.blt _ (by decide +kernel)) (star_plain (chk_plain h2) _ _) q (back_any fun e m => by
        have e' := List.mem_singleton.mp m
        subst e'
        exact chk_plain h3)
    · cases h
end
end
end DL

/-! DL11: statements: what is wanted, the simple ones. -/
namespace DL
open PySem L2

structure SStep (Γ : Gh) (H : Hp) (Γ' : Gh) (H' : Hp) : Prop where
  mono : ∀ a, Γ.F a → Γ'.F a
  e : Γ'.E = Γ.E
  f0 : Γ'.F0 = Γ.F0
  keep : ∀ a o, Γ.F a → H a = some o → H' a = some o
section
variable {K : PySem.W.Frag} {Γ Γ' Γ'' : Gh} {σ σ' : St} {H H' H'' : Hp} {s s' : S}
theorem SStep.refl : SStep Γ H Γ H := ⟨fun _ h => h, rfl, rfl, fun _ _ _ h => h⟩
theorem SStep.trans (a : SStep Γ H Γ' H') (b : SStep Γ' H' Γ'' H'') : SStep Γ H Γ'' H'' := ⟨fun c h => b.mono c (a.mono c h), b.e.trans a.e, b.f0.trans a.f0, fun c o f e => b.keep c o (a.mono c f) (a.keep c o f e)⟩
theorem Step.ss (a : Step Γ σ H s Γ' H' s') : SStep Γ H Γ' H' := ⟨a.mono, a.e, a.f0, fun c o _ e => a.keep c o e⟩
end
section
variable (K : PySem.W.Frag) (W : WX) (ca : CA)
/-- what is wanted behind a statement -/
def WS (Γ : Gh) (H : Hp) (N : Ends) : Out → Prop
  | .nx s' => ∀ Γ' σ' H', SStep Γ H Γ' H' → RS K Γ' σ' H' s' → N.nx σ' H'
  | .rt r s' => ∀ Γ' σ' H' v, SStep Γ H Γ' H' → RS K Γ' σ' H' s' → RV K Γ' σ' H' s' v r → N.rt v H'
  | .bk s' => ∀ Γ' σ' H', SStep Γ H Γ' H' → RS K Γ' σ' H' s' → N.bk σ' H'
  | .ct s' => ∀ Γ' σ' H', SStep Γ H Γ' H' → RS K Γ' σ' H' s' → N.ct σ' H'
  | .exc k s' => ∀ Γ' σ' H', SStep Γ H Γ' H' → RS K Γ' σ' H' s' → W (.ref (ca k)) none σ' H'
  | .stuck => False
end
section
variable {K : PySem.W.Frag} {W : WX} {ca : CA} {Γ Γ1 : Gh} {σ : St} {H H1 : Hp} {s s1 : S} {N : Ends}
theorem WS.shift {o : Out} (st : SStep Γ H Γ1 H1) (h : WS K W ca Γ H N o) : WS K W ca Γ1 H1 N o := by
  cases o with
  | nx s' => exact fun Γ' σ' H' a R => h Γ' σ' H' (st.trans a) R
  | rt r s' => exact fun Γ' σ' H' v a R => h Γ' σ' H' v (st.trans a) R
  | bk s' => exact fun Γ' σ' H' a R => h Γ' σ' H' (st.trans a) R
  | ct s' => exact fun Γ' σ' H' a R => h Γ' σ' H' (st.trans a) R
  | exc k s' => exact fun Γ' σ' H' a R => h Γ' σ' H' (st.trans a) R
  | stuck => exact h
theorem WS.out {α : Type} {r : R α} {f : α → S → Out} (h : WS K W ca Γ H N (r.out f)) {ok1 : Gh → Hp → S → α → Prop}
    (k : ∀ Γ1 H1 s1 a, Step Γ σ H s Γ1 H1 s1 → RS K Γ1 σ H1 s1 → WS K W ca Γ1 H1 N (f a s1) → ok1 Γ1 H1 s1 a) : WR K W ca Γ σ H s ok1 r := by
  cases r with
  | ok a s' => exact fun Γ' H' st R => k Γ' H' s' a st R (WS.shift st.ss h)
  | exc e s' => exact fun Γ' H' st R => h Γ' σ H' st.ss R
  | stuck => exact h
/-- an own value goes to a slot -/
theorem RS.setOwn (R : RS K Γ σ H s) {v : V} {d : D} (i : Nat) (o : Own K Γ H v d) (hs : ∀ (j : Nat) d', s.ρ[j]? = some (.own d') → σ[j]? ≠ some (some v)) : RS K Γ (σ.set i (some v)) H (s.set i (.own d)) := by
  refine ⟨by show (s.ρ.set i _).length = _; rw [List.length_set, List.length_set]; exact R.len, fun j d' z => ?_, fun j d' z => ?_, fun j k dj dk z1 z2 ne => ?_, R.entry, R.trk, R.fnew, R.ws⟩
  · rcases getElem?_set_of z with ⟨z1, z2⟩ | ⟨z1, z2⟩
    · cases z2
    · obtain ⟨w, h1, h2⟩ := R.fro j d' z2
      exact ⟨w, by rw [List.getElem?_set_ne z1]; exact h1, h2⟩
  · rcases getElem?_set_of z with ⟨z1, z2⟩ | ⟨z1, z2⟩
    · cases z2; subst z1
      have hi : i < σ.length := by
        rw [← R.len]
        have := (List.getElem?_eq_some_iff.mp z).1
        simpa [S.set] using this
      exact ⟨v, List.getElem?_set_self hi, o⟩
    · obtain ⟨w, h1, h2⟩ := R.own j d' z2
      exact ⟨w, by rw [List.getElem?_set_ne z1]; exact h1, h2⟩
  · have self : ∀ {m : Nat} {c : Cl}, (s.set i (.own d)).ρ[m]? = some c → m < σ.length := fun {m c} e => by
      rw [← R.len]
      have := (List.getElem?_eq_some_iff.mp e).1
      simpa [S.set] using this
    rcases getElem?_set_of z1 with ⟨y1, y2⟩ | ⟨y1, y2⟩
    · rcases getElem?_set_of z2 with ⟨x1, x2⟩ | ⟨x1, x2⟩
      · exact absurd (y1.symm.trans x1) ne
      · subst y1
        rw [List.getElem?_set_self (self z1), List.getElem?_set_ne x1]
        exact fun e => hs k dk x2 e.symm
    · rcases getElem?_set_of z2 with ⟨x1, x2⟩ | ⟨x1, x2⟩
      · subst x1
        rw [List.getElem?_set_self (self z2), List.getElem?_set_ne y1]
        exact fun e => hs j dj y2 e
      · rw [List.getElem?_set_ne y1, List.getElem?_set_ne x1]
        exact R.dist j k dj dk y2 x2 ne
/-- a value of any kind goes to a slot -/
theorem RS.put {Γ0 : Gh} {H0 : Hp} {s0 : S} (R : RS K Γ σ H s) (st0 : Step Γ0 σ H0 s0 Γ H s) {v : V} {r : Val} (i : Nat) (h : RV K Γ σ H s v r) (fr : Fresh H0 v r.2) : ∃ Γ', SStep Γ0 H0 Γ' H ∧ RS K Γ' (σ.set i (some v)) H (s.put i r) := by
  obtain ⟨d, k⟩ := r
  cases k with
  | fre => exact ⟨Γ, st0.ss, R.setOwn i h.1 h.2⟩
  | fro =>
    obtain ⟨Γ', st, R', rp⟩ := R.freeze st0 h fr
    exact ⟨Γ', st.ss, R'.set i rp⟩
  | bor j =>
    obtain ⟨Γ', st, R', rp⟩ := R.freeze st0 h fr
    exact ⟨Γ', st.ss, R'.set i rp⟩
/-- a slot's own thing is changed -/
theorem RS.mutate (R : RS K Γ σ H s) {i : Nat} {d d' : D} {p : Addr} {o : HO} (e : s.ρ[i]? = some (.own d)) (ep : σ[i]? = some (some (.ref p))) (hc : Cell K Γ.F (L2.upd H p o) p d') : SStep Γ H Γ (L2.upd H p o) ∧ RS K Γ σ (L2.upd H p o) (s.set i (.own d')) := by
  obtain ⟨v, q1, p', rfl, q2, q3, q4⟩ := R.own i d e
  rw [ep] at q1; cases q1
  have kp : ∀ a u, Γ.F a → H a = some u → L2.upd H p o a = some u := fun a u f e => upd_keep' (fun z => q2 (z ▸ f)) e
  refine ⟨⟨fun _ z => z, rfl, rfl, kp⟩, ⟨by show (s.ρ.set i _).length = _; rw [List.length_set]; exact R.len, fun j d2 z => ?_, fun j d2 z => ?_, fun j k dj dk z1 z2 ne => ?_, fun a u z => upd_keep' (fun y => by rw [y, q3] at z; cases z) (R.entry a u z), fun a h => ?_, R.fnew, R.ws⟩⟩
  · rcases getElem?_set_of z with ⟨z1, z2⟩ | ⟨z1, z2⟩
    · cases z2
    · obtain ⟨w, h1, h2⟩ := R.fro j d2 z2
      exact ⟨w, h1, Rep.mono (fun _ z => z) kp d2 w h2⟩
  · rcases getElem?_set_of z with ⟨z1, z2⟩ | ⟨z1, z2⟩
    · cases z2; subst z1
      exact ⟨_, ep, p, rfl, q2, q3, hc⟩
    · obtain ⟨w, h1, q, rfl, h2, h3, h4⟩ := R.own j d2 z2
      have ne : q ≠ p := fun z => by
        subst z
        exact R.dist i j d d2 e z2 z1 (ep.trans h1.symm)
      refine ⟨_, h1, q, rfl, h2, h3, ?_⟩
      cases d2 with
      | lst ds => obtain ⟨vs, a1, a2⟩ := h4; exact ⟨vs, upd_keep' ne a1, RepL.mono (fun _ z => z) kp ds vs a2⟩
      | dic ds => obtain ⟨vs, a1, a2⟩ := h4; exact ⟨vs, upd_keep' ne a1, RepK.mono (fun _ z => z) kp ds vs a2⟩
      | _ => exact h4.elim
  · have old : ∀ {m : Nat} {c : D}, (s.set i (.own d')).ρ[m]? = some (.own c) → ∃ c', s.ρ[m]? = some (.own c') := fun {m c} z => by
      rcases getElem?_set_of z with ⟨z1, _⟩ | ⟨_, z2⟩
      · subst z1; exact ⟨d, e⟩
      · exact ⟨c, z2⟩
    obtain ⟨_, y1⟩ := old z1
    obtain ⟨_, y2⟩ := old z2
    exact R.dist j k _ _ y1 y2 ne
  · cases q : H a with
    | none => exact absurd q (R.trk a h)
    | some u => rw [kp a u h q]; simp
end

structure SS (C : Call) (ca : CA) (X : Cx) (W : WX) (d : DS) (st : Stmt) : Prop where
  ex : ∃ t, PS X st t ∧ ∀ Γ σ H s N, RS X.K Γ σ H s → WS X.K W ca Γ H N (exec C d s) → t N σ H
structure SSs (C : Call) (ca : CA) (X : Cx) (W : WX) (d : DB) (st : List Stmt) : Prop where
  ex : ∃ t, PSs X st t ∧ ∀ Γ σ H s N, RS X.K Γ σ H s → WS X.K W ca Γ H N (execB C d s) → t N σ H
section
variable {C : Call} {ca : CA} {X : Cx} {W : WX} {a b c : DE} {e e1 e2 e3 : Expr} {pos : Pos}
theorem ss_pass : SS C ca X W .pass (.Pass pos) := ⟨_, ps_pass, fun Γ σ H s N R h => by simp only [exec] at h; exact h Γ σ H .refl R⟩
theorem ss_brk : SS C ca X W .brk (.Break pos) := ⟨_, ps_break, fun Γ σ H s N R h => by simp only [exec] at h; exact h Γ σ H .refl R⟩
theorem ss_ret (ha : SE C ca X W a e) : SS C ca X W (.ret a) (.Return (some e) pos) := by
  obtain ⟨t, p, i⟩ := ha.ex
  refine ⟨_, ps_ret p, fun Γ σ H s N R h => ?_⟩
  simp only [exec] at h
  exact i Γ σ H s _ R (WS.out h fun Γ1 H1 s1 r st R1 w v rv fr => w Γ1 σ H1 v .refl R1 rv)
theorem ss_expr (ha : SE C ca X W a e) (hs : swapsWith e none pos.line X.env = pure false) : SS C ca X W (.expr a) (.Expr e pos) := by
  obtain ⟨t, p, i⟩ := ha.ex
  refine ⟨_, ps_expr p hs, fun Γ σ H s N R h => ?_⟩
  simp only [exec] at h
  exact i Γ σ H s _ R (WS.out h fun Γ1 H1 s1 r st R1 w v rv fr => w Γ1 σ H1 .refl R1)
/-- the store of an evaluated expression -/
theorem asg_read {i : Nat} {t : TE} (ht : ∀ Γ σ H s Q, RS X.K Γ σ H s → WE X.K W ca Γ σ H s Q (evalE C a s) → t σ H Q) : ∀ Γ σ H s N, RS X.K Γ σ H s → WS X.K W ca Γ H N (exec C (.asg i a) s) → tAsg t (gName i) N σ H := fun Γ σ H s N R h => by
  simp only [exec] at h
  cases q : evalE C a s with
  | stuck => rw [q] at h; exact h.elim
  | exc k s' => rw [q] at h; exact ht Γ σ H s _ R (by rw [q]; exact fun Γ' H' st R' => h Γ' σ H' st.ss R')
  | ok r s' =>
    rw [q] at h
    refine ht Γ σ H s _ R ?_
    rw [q]
    intro Γ1 H1 st R1 v rv fr
    obtain ⟨Γ2, st2, R2⟩ := R1.put st i rv fr
    exact h Γ2 _ H1 st2 R2
theorem ss_asg {i : Nat} {x : Str} {p : Pos} (nd : X.N.Nodup) (hi : X.N[i]? = some x) (hx : Sto X x) (ha : SE C ca X W a e) (hs : swapsWith e (some (.Name x p)) pos.line X.env = pure false) : SS C ca X W (.asg i a) (.Assign [.Name x p] e pos) := by
  obtain ⟨t, pt, j⟩ := ha.ex
  exact ⟨_, ps_set nd hi hx.loc pt hs hx.fn, asg_read j⟩
theorem ss_asgT {is : List Nat} {tg : Expr} (ha : SE C ca X W a e) (hg : PG X tg (gOf X.K (.tp is))) (hs : swapsWithSole [tg] e pos.line X.env = pure false) (hw : swappedStores [tg] e X.env = pure none) (h1 : (assignEach [tg] X.env).map (·.2) = [assign tg X.env]) :
    SS C ca X W (.asgT is a) (.Assign [tg] e pos) := by
  obtain ⟨t, pt, j⟩ := ha.ex
  refine ⟨_, ps_asg pt hg hs hw h1, fun Γ σ H s N R h => ?_⟩
  simp only [exec] at h
  cases q : evalE C a s with
  | stuck => rw [q] at h; exact h.elim
  | exc k s' => rw [q] at h; exact j Γ σ H s _ R (by rw [q]; exact fun Γ' H' st R' => h Γ' σ H' st.ss R')
  | ok r s' =>
    rw [q] at h
    refine j Γ σ H s _ R ?_
    rw [q]
    intro Γ1 H1 st R1 v rv fr
    obtain ⟨Γ2, st2, R2, rp⟩ := R1.freeze st rv fr
    have h : WS X.K W ca Γ H N (match bindT (.tp is) r.1 (s'.fz r.2) with
      | some s => .nx s
      | none => .stuck) := h
    cases z : bindT (.tp is) r.1 (s'.fz r.2) with
    | none => rw [z] at h; exact h.elim
    | some s2 =>
      rw [z] at h
      exact tgt_ok R2 rp z fun σ1 R3 _ => h Γ2 σ1 H1 st2.ss R3
/-! several values at once -/
/-- a value that leans on no slot: read only, or own and no slot's -/
def RW (K : PySem.W.Frag) (Γ : Gh) (σ : St) (H : Hp) (s : S) (v : V) : Val → Prop
  | (d, .fre) => Own K Γ H v d ∧ ∀ (j : Nat) d', s.ρ[j]? = some (.own d') → σ[j]? ≠ some (some v)
  | (d, _) => Rep K Γ.F H v d
inductive RWs (K : PySem.W.Frag) (Γ : Gh) (σ : St) (H : Hp) (s : S) : List V → List Val → Prop
  | nil : RWs K Γ σ H s [] []
  | cons {v : V} {vs : List V} {r : Val} {rs : List Val} : RW K Γ σ H s v r → (r.2 = .fre → ∀ w q, (w, q) ∈ vs.zip rs → q.2 = Kd.fre → w ≠ v) → RWs K Γ σ H s vs rs → RWs K Γ σ H s (v :: vs) (r :: rs)
theorem RW.set {K : PySem.W.Frag} {Γ : Gh} {σ : St} {H : Hp} {s : S} {v u : V} {r q : Val} {i : Nat} (h : RW K Γ σ H s u q) (hd : r.2 = .fre → q.2 = .fre → u ≠ v) : RW K Γ (σ.set i (some v)) H (s.set i (clOf r.1 r.2)) u q := by
  obtain ⟨d, k⟩ := q
  cases k with
  | fre =>
    refine ⟨h.1, fun j d' e z => ?_⟩
    rcases getElem?_set_of e with ⟨e1, e2⟩ | ⟨e1, e2⟩
    · subst e1
      rcases getElem?_set_of z with ⟨_, z2⟩ | ⟨z1, _⟩
      · cases z2
        obtain ⟨d2, k2⟩ := r
        cases k2 with
        | fre => exact hd rfl rfl rfl
        | fro => cases e2
        | bor _ => cases e2
      · exact z1 rfl
    · rw [List.getElem?_set_ne e1] at z
      exact h.2 j d' e2 z
  | fro => exact h
  | bor _ => exact h
theorem RWs.set {K : PySem.W.Frag} {Γ : Gh} {σ : St} {H : Hp} {s : S} {v : V} {r : Val} {i : Nat} : ∀ {vs : List V} {rs : List Val}, RWs K Γ σ H s vs rs → (r.2 = .fre → ∀ w q, (w, q) ∈ vs.zip rs → q.2 = Kd.fre → w ≠ v) → RWs K Γ (σ.set i (some v)) H (s.set i (clOf r.1 r.2)) vs rs
  | _, _, .nil, _ => .nil
  | _, _, .cons a n h, hd => .cons (RW.set a fun e1 e2 => hd e1 _ _ List.mem_cons_self e2) n (RWs.set h fun e w q m => hd e w q (List.mem_cons_of_mem _ m))
theorem RS.putW {K : PySem.W.Frag} {Γ : Gh} {σ : St} {H : Hp} {s : S} (R : RS K Γ σ H s) {v : V} {r : Val} (i : Nat) (h : RW K Γ σ H s v r) : RS K Γ (σ.set i (some v)) H (s.set i (clOf r.1 r.2)) := by
  obtain ⟨d, k⟩ := r
  cases k with
  | fre => exact R.setOwn i h.1 h.2
  | fro => exact R.set i h
  | bor _ => exact R.set i h
theorem RWs.length {K : PySem.W.Frag} {Γ : Gh} {σ : St} {H : Hp} {s : S} : ∀ {vs : List V} {rs : List Val}, RWs K Γ σ H s vs rs → vs.length = rs.length
  | _, _, .nil => rfl
  | _, _, .cons _ _ h => congrArg (· + 1) h.length
/-- the slots of is take the values, one behind the other -/
theorem puts_ok {K : PySem.W.Frag} {Γ : Gh} {H : Hp} : ∀ (is : List Nat) (vs : List V) (rs : List Val) (σ : St) (s : S), RS K Γ σ H s → RWs K Γ σ H s vs rs → rs.length = is.length →
    RS K Γ ((is.zip vs).foldl (fun σ p => σ.set p.1 (some p.2)) σ) H ((is.zip rs).foldl (fun s p => s.set p.1 (clOf p.2.1 p.2.2)) s)
  | [], vs, rs, σ, s, R, h, hl => by
    cases rs with
    | cons _ _ => cases hl
    | nil => cases h; exact R
  | i :: is, vs, rs, σ, s, R, h, hl => by
    cases rs with
    | nil => cases hl
    | cons r rs =>
      cases h with
      | @cons v vs _ _ a n h =>
        exact puts_ok is vs rs _ _ (R.putW i a) (h.set n) (by simpa using hl)
theorem puts_names {K : PySem.W.Frag} {H : Hp} {Q : St → Hp → Prop} : ∀ (is : List Nat) (vs : List V) (σ : St), vs.length = is.length → Q ((is.zip vs).foldl (fun σ p => σ.set p.1 (some p.2)) σ) H → gNames is vs σ H Q
  | [], [], σ, _, q => ⟨rfl, q⟩
  | i :: is, v :: vs, σ, hl, q => ⟨v, vs, rfl, puts_names (K := K) is vs _ (by simpa using hl) q⟩
/-- values with kinds, behind the freezing of all that is borrowed -/
theorem RS.freezeAll {K : PySem.W.Frag} {σ : St} {H : Hp} : ∀ {Γ : Gh} {s : S} {vs : List V} {rs : List Val}, RS K Γ σ H s → RVs K Γ σ H s vs rs →
    ∃ Γ', Step Γ σ H s Γ' H (s.fzs rs) ∧ RS K Γ' σ H (s.fzs rs) ∧ RWs K Γ' σ H (s.fzs rs) vs rs
  | Γ, s, _, _, R, .nil => ⟨Γ, .refl, R, .nil⟩
  | Γ, s, _, _, R, .cons (v := v) (vs := vs) (r := r) (rs := rs) a n h => by
    have step1 : ∃ Γ1, Step Γ σ H s Γ1 H (s.fz r.2) ∧ RS K Γ1 σ H (s.fz r.2) ∧ (r.2 ≠ .fre → Rep K Γ1.F H v r.1) := by
      obtain ⟨d, k⟩ := r
      cases k with
      | fre => exact ⟨Γ, .refl, R, fun z => absurd rfl z⟩
      | fro => exact ⟨Γ, .refl, R, fun _ => a⟩
      | bor i =>
        obtain ⟨Γ', st', R', rp⟩ := R.freeze (Γ0 := Γ) (H0 := H) (s0 := s) .refl a (fun z => nomatch z)
        exact ⟨Γ', st', R', fun _ => rp⟩
    obtain ⟨Γ1, stl, R1, rp1⟩ := step1
    have h1 : RVs K Γ1 σ H (s.fz r.2) vs rs := by
      clear n
      induction h with
      | nil => exact .nil
      | cons a n h ih => exact .cons (a.step R R1 stl) n ih
    obtain ⟨Γ2, st2, R2, hw⟩ := RS.freezeAll R1 h1
    refine ⟨Γ2, stl.trans st2, R2, .cons ?_ n hw⟩
    by_cases hk : r.2 = .fre
    · have b := a.step R R2 (stl.trans st2)
      obtain ⟨d, k⟩ := r
      cases hk
      exact b
    · have rp := (rp1 hk).step st2
      obtain ⟨d, k⟩ := r
      cases k with
      | fre => exact absurd rfl hk
      | fro => exact rp
      | bor _ => exact rp
end
end DL

/-! DL12: statements with parts. -/
namespace DL
open PySem L2
section
variable {K : PySem.W.Frag} {W : WX} {ca : CA} {Γ Γ1 : Gh} {σ : St} {H H1 : Hp} {s s1 : S} {N : Ends}
theorem WS.out0 {α : Type} {r : R α} {f : α → S → Out} (h : WS K W ca Γ H N (r.out f)) {ok1 : Gh → Hp → S → α → Prop}
    (k : ∀ Γ1 H1 s1 a, Step Γ σ H s Γ1 H1 s1 → RS K Γ1 σ H1 s1 → WS K W ca Γ H N (f a s1) → ok1 Γ1 H1 s1 a) : WR K W ca Γ σ H s ok1 r := by
  cases r with
  | ok a s' => exact fun Γ' H' st R => k Γ' H' s' a st R h
  | exc e s' => exact fun Γ' H' st R => h Γ' σ H' st.ss R
  | stuck => exact h
/-- other ends -/
theorem WS.ends {N N' : Ends} {o : Out} (h : WS K W ca Γ H N o) (h1 : ∀ s, o = .nx s → WS K W ca Γ H N' o) (h2 : ∀ v H, N.rt v H → N'.rt v H) (h3 : ∀ s, o = .bk s → WS K W ca Γ H N' o) (h4 : ∀ s, o = .ct s → WS K W ca Γ H N' o) : WS K W ca Γ H N' o := by
  cases o with
  | nx s' => exact h1 s' rfl
  | rt r s' => exact fun Γ' σ' H' v a R rv => h2 _ _ (h Γ' σ' H' v a R rv)
  | bk s' => exact h3 s' rfl
  | ct s' => exact h4 s' rfl
  | exc k s' => exact h
  | stuck => exact h
end
theorem RepK.len {K : PySem.W.Frag} {F : Addr → Prop} {H : Hp} : ∀ {kvs : List (Key × V)} {kds : List (Key × D)}, RepK K F H kvs kds → kvs.length = kds.length
  | _, _, .nil => rfl
  | _, _, .cons _ h => congrArg (· + 1) h.len
theorem RepK.app {K : PySem.W.Frag} {F : Addr → Prop} {H : Hp} : ∀ {kvs kws : List (Key × V)} {kds kes : List (Key × D)}, RepK K F H kvs kds → RepK K F H kws kes → RepK K F H (kvs ++ kws) (kds ++ kes)
  | _, _, _, _, .nil, q => q
  | _, _, _, _, .cons a h, q => .cons a (h.app q)
theorem RepK.keys {K : PySem.W.Frag} {F : Addr → Prop} {H : Hp} (k : Key) : ∀ {kvs : List (Key × V)} {kds : List (Key × D)}, RepK K F H kvs kds → (kvs.any fun p => decide (p.1 = k)) = (kds.any fun p => decide (p.1 = k))
  | _, _, .nil => rfl
  | _, _, .cons a h => by rw [List.any_cons, List.any_cons, h.keys k]
theorem RepK.upd {K : PySem.W.Frag} {F : Addr → Prop} {H : Hp} (k : Key) {v : V} {d : D} (r : Rep K F H v d) : ∀ {kvs : List (Key × V)} {kds : List (Key × D)}, RepK K F H kvs kds → RepK K F H (kvs.map fun p => if p.1 = k then (p.1, v) else p) (kds.map fun p => if p.1 = k then (p.1, d) else p)
  | _, _, .nil => .nil
  | _, _, .cons (k := j) a h => by
    rw [List.map_cons, List.map_cons]
    by_cases e : j = k
    · rw [if_pos e, if_pos e]; exact .cons r (h.upd k r)
    · rw [if_neg e, if_neg e]; exact .cons a (h.upd k r)
theorem RepK.put {K : PySem.W.Frag} {F : Addr → Prop} {H : Hp} (k : Key) {v : V} {d : D} (r : Rep K F H v d) {kvs : List (Key × V)} {kds : List (Key × D)} (h : RepK K F H kvs kds) : RepK K F H (putK kvs k v) (putD kds k d) := by
  unfold putK putD
  rw [h.keys k]
  split
  · exact h.upd k r
  · exact h.app (.cons r .nil)
section
variable {C : Call} {ca : CA} {X : Cx} {W : WX} {a b c : DE} {e e1 e2 e3 : Expr} {pos : Pos}
theorem sub_plain {o i : Expr} {pos : Pos} {env : Env} (h : plainX i = true) : ∀ v, assign (.Subscript o i pos) env v = (do
      let ov ← holding [v] (eval o env)
      let iv ← holding [v, ov] (eval i env)
      standAt pos
      holding [v, ov, iv] (setItem ov iv v)
      release [v, ov, iv] []) := by
  cases i <;> first
    | (intro _; rfl)
    | cases h
def rSet : TSet := fun o i v H Q => rSetL o i v H Q ∨ rSetD o i v H Q
theorem set_both (hu : X.A.units + 1 < cLine) : PSet X rSet := by
  intro pins s σ H o i v ov iv u Q I ro ri rv h
  rcases h with h | h
  · exact set_list pins s σ H o i v ov iv u Q I ro ri rv h
  · exact set_dict hu pins s σ H o i v ov iv u Q I ro ri rv h
/-- a slot's own thing at its address -/
theorem RS.ownAt {K : PySem.W.Frag} {Γ : Gh} {σ : St} {H : Hp} {s : S} (R : RS K Γ σ H s) {i : Nat} {d : D} (e : s.ρ[i]? = some (.own d)) : ∃ p, σ[i]? = some (some (.ref p)) ∧ ¬ Γ.F p ∧ Cell K Γ.F H p d := by
  obtain ⟨v, h1, p, rfl, h2, h3, h4⟩ := R.own i d e
  exact ⟨p, h1, h2, h4⟩
theorem RS.mutL {K : PySem.W.Frag} {Γ : Gh} {σ : St} {H : Hp} {s : S} (R : RS K Γ σ H s) {i : Nat} {ds es : List D} {p : Addr} {vs : List V} (e : s.ρ[i]? = some (.own (.lst ds))) (ep : σ[i]? = some (some (.ref p))) (nF : ¬ Γ.F p) (r : RepL K Γ.F H vs es) :
    SStep Γ H Γ (L2.upd H p (.lst vs)) ∧ RS K Γ σ (L2.upd H p (.lst vs)) (s.set i (.own (.lst es))) :=
  R.mutate e ep ⟨vs, upd_same, RepL.mono (fun _ z => z) (fun a u f q => upd_keep' (fun (z : a = p) => nF (z ▸ f)) q) es vs r⟩
theorem RS.mutD {K : PySem.W.Frag} {Γ : Gh} {σ : St} {H : Hp} {s : S} (R : RS K Γ σ H s) {i : Nat} {d : D} {es : List (Key × D)} {p : Addr} {vs : List (Key × V)} (e : s.ρ[i]? = some (.own d)) (ep : σ[i]? = some (some (.ref p))) (nF : ¬ Γ.F p) (r : RepK K Γ.F H vs es) :
    SStep Γ H Γ (L2.upd H p (.dK vs)) ∧ RS K Γ σ (L2.upd H p (.dK vs)) (s.set i (.own (.dic es))) :=
  R.mutate e ep ⟨vs, upd_same, RepK.mono (fun _ z => z) (fun a u f q => upd_keep' (fun (z : a = p) => nF (z ▸ f)) q) es vs r⟩
theorem ss_setix {i : Nat} {x : Str} {p p' : Pos} (hu : X.A.units + 1 < cLine) (hN : X.N[i]? = some x) (hv : Vis X.env.scope x) (hd : (x == ("__debug__" : Str)) = false) (hcd : (x == ("__classdict__" : Str)) = false)
    (hj : SE C ca X W b e2) (pl : plainX e2 = true) (ha : SE C ca X W a e) : SS C ca X W (.setix i b a) (.Assign [.Subscript (.Name x p) e2 p'] e pos) := by
  obtain ⟨tj, pj, ij⟩ := hj.ex
  obtain ⟨t, pt, ia⟩ := ha.ex
  refine ⟨_, ps_asg pt (pg_sub (pe_var hN hv hd hcd) pj (set_both hu) (sub_plain pl)) (by cases e <;> rfl) (by cases e <;> rfl) rfl, fun Γ σ H s N R h => ?_⟩
  simp only [exec] at h
  cases z : s.ρ[i]? with
  | none => rw [z] at h; exact h.elim
  | some c0 =>
    cases c0 with
    | un => rw [z] at h; exact h.elim
    | fro _ => rw [z] at h; exact h.elim
    | own d0 =>
      rw [z] at h
      obtain ⟨p0, hp0, nF0, cl0⟩ := R.ownAt z
      refine ia Γ σ H s _ R (WS.out0 h fun Γ1 H1 s1 r st R1 w v rv fr => ?_)
      obtain ⟨Γ2, st2, R2, rp⟩ := R1.freeze st rv fr
      refine ⟨_, hp0, ij Γ2 σ H1 _ _ R2 (WS.out0 (WS.shift st2.ss w) fun Γ3 H3 s3 y st3 R3 w3 u ru fu => ?_)⟩
      have w3 := WS.shift st3.ss w3
      have rp3 := rp.step st3
      cases q3 : s3.ρ[i]? with
      | none => simp only [setS, q3] at w3; exact w3.elim
      | some c3 =>
        cases c3 with
        | un => simp only [setS, q3] at w3; exact w3.elim
        | fro _ => simp only [setS, q3] at w3; exact w3.elim
        | own d3 =>
          obtain ⟨p3, hp3, nF3, cl3⟩ := R3.ownAt q3
          rw [hp0] at hp3; cases hp3
          cases d3 with
          | lst ds =>
            obtain ⟨vs, g1, g2⟩ := cl3
            have cu := ru.cont R3
            cases qy : y.1 with
            | int k =>
              rw [qy] at cu
              have eu := cu.int
              subst eu
              cases qk : ixN ds.length k with
              | none => simp only [setS, q3, qy, qk] at w3; exact w3.elim
              | some j =>
                simp only [setS, q3, qy, qk] at w3
                obtain ⟨m1, m2⟩ := R3.mutL q3 hp0 nF3 (g2.set rp3 j)
                exact .inl ⟨p0, vs, k, j, rfl, rfl, g1, by rw [g2.length]; exact qk, w3 Γ3 σ _ m1 m2⟩
            | _ => simp only [setS, q3, qy] at w3; exact w3.elim
          | dic kds =>
            obtain ⟨kvs, g1, g2⟩ := cl3
            have cu := ru.cont R3
            cases qk : keyOf y.1 with
            | none => simp only [setS, q3, qk] at w3; exact w3.elim
            | some k =>
              have eu := keyOf_kV cu qk
              subst eu
              simp only [setS, q3, qk] at w3
              split at w3
              · rename_i hl
                obtain ⟨m1, m2⟩ := R3.mutD q3 hp0 nF3 (g2.put k rp3)
                exact .inr ⟨p0, _, rfl, DPut.k g1 (by rw [g2.len, len_eq]; exact hl), w3 Γ3 σ _ m1 m2⟩
              · exact w3.elim
          | _ => simp only [setS, q3] at w3; exact w3.elim
theorem few_plain {e : Expr} {cpos : Pos} {env : Env} (pl : plainX e = true) : ((backTo cpos (starEach [e] env)).all (fun x => !x.1) && (backToKw cpos (keywordEach [] env)).all (fun x => x.1.isSome)
      && decide ([e].length + ([] : List Keyword).length + (if ([] : List Keyword).isEmpty then 0 else 1) < 30)) = true := by
  rw [back_all fun x m => by rw [List.mem_singleton.mp m]; exact pl]
  rfl
theorem ss_append {i : Nat} {x : Str} {p apos cpos : Pos} (hN : X.N[i]? = some x) (hv : Vis X.env.scope x) (hd : (x == ("__debug__" : Str)) = false) (hcd : (x == ("__classdict__" : Str)) = false)
    (ha : SE C ca X W a e) (pl : plainX e = true) (hline : (apos.endLine == cpos.line) = true) : SS C ca X W (.append i a) (.Expr (.Call (.Attribute (.Name x p) ("append" : Str) apos) [e] [] cpos) pos) := by
  obtain ⟨t, pt, ia⟩ := ha.ex
  refine ⟨_, ps_expr (pe_bm (plainAttrs_mt .count) PySem.F.slot_list_append PySem.F.type_list_append mt_append (pe_var hN hv hd hcd) (pa_cons pt pa_nil (star_plain pl _ _)) rfl (few_plain pl) hline (star_plain pl _ _) rfl) rfl, fun Γ σ H s N R h => ?_⟩
  simp only [exec] at h
  cases z : s.ρ[i]? with
  | none => rw [z] at h; exact h.elim
  | some c0 =>
    cases c0 with
    | un => rw [z] at h; exact h.elim
    | fro _ => rw [z] at h; exact h.elim
    | own d0 =>
      cases d0 with
      | lst ds0 =>
        rw [z] at h
        obtain ⟨p0, hp0, nF0, vs0, g0, r0⟩ := R.ownAt z
        refine ⟨_, hp0, .inl ⟨rfl, _, SqL.of g0⟩, ia Γ σ H s _ R (WS.out0 h fun Γ1 H1 s1 r st R1 w v rv fr => ?_)⟩
        obtain ⟨Γ2, st2, R2, rp⟩ := R1.freeze st rv fr
        have w := WS.shift st2.ss w
        cases q : (s1.fz r.2).ρ[i]? with
        | none => simp only [appendS, q] at w; exact w.elim
        | some c3 =>
          cases c3 with
          | un => simp only [appendS, q] at w; exact w.elim
          | fro _ => simp only [appendS, q] at w; exact w.elim
          | own d3 =>
            cases d3 with
            | lst ds =>
              obtain ⟨p3, hp3, nF3, vs, g1, g2⟩ := R2.ownAt q
              rw [hp0] at hp3; cases hp3
              simp only [appendS, q] at w
              split at w
              · rename_i hl
                obtain ⟨m1, m2⟩ := R2.mutL q hp0 nF3 (g2.append (.cons rp .nil))
                exact ⟨p0, vs, v, rfl, rfl, g1, by rw [g2.length, len_eq]; exact hl, w Γ2 σ _ m1 m2⟩
              · exact w.elim
            | _ => simp only [appendS, q] at w; exact w.elim
      | _ => rw [z] at h; exact h.elim
theorem ss_extend {i : Nat} {x : Str} {p apos cpos : Pos} (hN : X.N[i]? = some x) (hv : Vis X.env.scope x) (hd : (x == ("__debug__" : Str)) = false) (hcd : (x == ("__classdict__" : Str)) = false)
    (ha : SE C ca X W a e) (pl : plainX e = true) (hline : (apos.endLine == cpos.line) = true) : SS C ca X W (.extend i a) (.Expr (.Call (.Attribute (.Name x p) ("extend" : Str) apos) [e] [] cpos) pos) := by
  obtain ⟨t, pt, ia⟩ := ha.ex
  refine ⟨_, ps_expr (pe_bm (plainAttrs_mt .count) PySem.F.slot_list_extend PySem.F.type_list_extend mt_extend (pe_var hN hv hd hcd) (pa_cons pt pa_nil (star_plain pl _ _)) rfl (few_plain pl) hline (star_plain pl _ _) rfl) rfl, fun Γ σ H s N R h => ?_⟩
  simp only [exec] at h
  cases z : s.ρ[i]? with
  | none => rw [z] at h; exact h.elim
  | some c0 =>
    cases c0 with
    | un => rw [z] at h; exact h.elim
    | fro _ => rw [z] at h; exact h.elim
    | own d0 =>
      cases d0 with
      | lst ds0 =>
        rw [z] at h
        obtain ⟨p0, hp0, nF0, vs0, g0, r0⟩ := R.ownAt z
        refine ⟨_, hp0, .inl ⟨rfl, _, SqL.of g0⟩, ia Γ σ H s _ R (WS.out0 h fun Γ1 H1 s1 r st R1 w v rv fr => ?_)⟩
        have w := WS.shift st.ss w
        cases q : s1.ρ[i]? with
        | none => simp only [extendS, q] at w; exact w.elim
        | some c3 =>
          cases c3 with
          | un => simp only [extendS, q] at w; exact w.elim
          | fro _ => simp only [extendS, q] at w; exact w.elim
          | own d3 =>
            cases d3 with
            | lst ds =>
              obtain ⟨p3, hp3, nF3, vs, g1, g2⟩ := R1.ownAt q
              rw [hp0] at hp3; cases hp3
              have cv := rv.cont R1
              cases qr : r.1 with
              | lst es =>
                rw [qr] at cv
                obtain ⟨b', ws, rfl, k1, k2⟩ := cv.lst
                simp only [extendS, q, qr] at w
                split at w
                · rename_i hl
                  obtain ⟨m1, m2⟩ := R1.mutL q hp0 nF3 (g2.append k2)
                  exact ⟨p0, b', vs, ws, rfl, rfl, g1, k1, by rw [g2.length, k2.length, len_eq]; exact hl, w Γ1 σ _ m1 m2⟩
                · exact w.elim
              | _ => simp only [extendS, q, qr] at w; exact w.elim
            | _ => simp only [extendS, q] at w; exact w.elim
      | _ => rw [z] at h; exact h.elim
end
end DL

/-! DL13: blocks, tests, loops, several values at once. -/
namespace DL
open PySem L2
section
variable {C : Call} {ca : CA} {X : Cx} {W : WX} {a b c : DE} {e e1 e2 e3 : Expr} {pos : Pos}
theorem sss_nil : SSs C ca X W .nil [] := ⟨_, pss_nil, fun Γ σ H s N R h => by simp only [execB] at h; exact h Γ σ H .refl R⟩
theorem sss_cons {d : DS} {ds : DB} {st : Stmt} {sts : List Stmt} (h1 : SS C ca X W d st) (h2 : SSs C ca X W ds sts) : SSs C ca X W (.cons d ds) (st :: sts) := by
  obtain ⟨t, p, i⟩ := h1.ex
  obtain ⟨u, q, j⟩ := h2.ex
  refine ⟨_, pss_cons p q, fun Γ σ H s N R h => i Γ σ H s _ R ?_⟩
  simp only [execB] at h
  cases z : exec C d s with
  | nx s1 =>
    rw [z] at h
    exact fun Γ' σ' H' st R' => j Γ' σ' H' s1 N R' (WS.shift st h)
  | rt r s1 => rw [z] at h; exact h
  | bk s1 => rw [z] at h; exact h
  | ct s1 => rw [z] at h; exact h
  | exc k s1 => rw [z] at h; exact h
  | stuck => rw [z] at h; exact h
theorem ss_ite {p q : DB} {ps qs : List Stmt} (hc : ST C ca X W c e) (h1 : SSs C ca X W p ps) (h2 : SSs C ca X W q qs) : SS C ca X W (.ite c p q) (.If e ps qs pos) := by
  obtain ⟨t, pt, i⟩ := hc.ex
  obtain ⟨t1, p1, i1⟩ := h1.ex
  obtain ⟨t2, p2, i2⟩ := h2.ex
  refine ⟨_, ps_if pt p1 p2, fun Γ σ H s N R h => ?_⟩
  simp only [exec] at h
  refine i Γ σ H s _ R (WS.out0 h fun Γ1 H1 s1 b st R1 w => ?_)
  have w := WS.shift st.ss w
  cases b with
  | true => exact i1 Γ1 σ H1 s1 N R1 w
  | false => exact i2 Γ1 σ H1 s1 N R1 w
theorem ss_while {p : DB} {ps : List Stmt} (hp : PassesOwn (model X.prog X.w) X.A X.env X.xe) (hc : ST C ca X W c e) (h1 : SSs C ca X W p ps) : SS C ca X W (.while c p) (.While e ps [] pos) := by
  obtain ⟨t, pt, i⟩ := hc.ex
  obtain ⟨t1, p1, i1⟩ := h1.ex
  refine ⟨_, ps_while hp pt p1, fun Γ σ H s N R h => ?_⟩
  simp only [exec] at h
  refine ⟨fun m σ H => ∃ Γ s, RS X.K Γ σ H s ∧ WS X.K W ca Γ H N (whileL (fun s => asBl (evalE C c s)) (fun s => execB C p s) m s), ⟨WF, Γ, s, R, h⟩, ?_⟩
  rintro m σ H ⟨Γ, s, R, h⟩
  cases m with
  | zero => exact h.elim
  | succ m =>
    refine i Γ σ H s _ R (WS.out0 h fun Γ1 H1 s1 b st R1 w => ?_)
    have w := WS.shift st.ss w
    cases b with
    | false => exact w Γ1 σ H1 .refl R1
    | true =>
      have w : WS X.K W ca Γ1 H1 N (match execB C p s1 with
        | .nx s2 => whileL (fun s => asBl (evalE C c s)) (fun s => execB C p s) m s2
        | .ct s2 => whileL (fun s => asBl (evalE C c s)) (fun s => execB C p s) m s2
        | .bk s2 => .nx s2
        | o => o) := w
      refine iteT ⟨fun σ' H' => ∃ Γ s, RS X.K Γ σ' H' s ∧ WS X.K W ca Γ H' N (whileL (fun s => asBl (evalE C c s)) (fun s => execB C p s) m s), fun σ' H' z => ⟨m, Nat.lt_succ_self m, z⟩, i1 Γ1 σ H1 s1 _ R1 ?_⟩
      cases z : execB C p s1 with
      | nx s2 => rw [z] at w; exact fun Γ' σ' H' st R' => ⟨Γ', s2, R', WS.shift st w⟩
      | ct s2 => rw [z] at w; exact fun Γ' σ' H' st R' => ⟨Γ', s2, R', WS.shift st w⟩
      | bk s2 => rw [z] at w; exact w
      | rt r s2 => rw [z] at w; exact w
      | exc k s2 => rw [z] at w; exact w
      | stuck => rw [z] at w; exact w
theorem ss_for {tgt : Tgt} {src : DSrc} {p : DB} {ps : List Stmt} {tg it : Expr} (hp : PassesOwn (model X.prog X.w) X.A X.env X.xe) (hcm : X.calm = true) (hS : SI C ca X W src tg it) (hg : PG X tg (gOf X.K tgt)) (h1 : SSs C ca X W p ps)
    (hs : ∀ x, foldedSetIterable it X.env x = pure x) : SS C ca X W (.for tgt src p) (.For tg it ps [] pos) := by
  obtain ⟨wi, pi, iw⟩ := hS.ex
  obtain ⟨t1, p1, i1⟩ := h1.ex
  refine ⟨_, ps_for hp hcm pi hg p1 hs, fun Γ σ H s N R h => ?_⟩
  simp only [exec] at h
  refine iw Γ σ H s _ R (WS.out0 h fun Γ1 H1 s1 ds st1 R1 w J dr => ?_)
  have w := WS.shift st1.ss w
  refine ⟨fun i m σ' H' => m = ds.length - i ∧ i ≤ ds.length ∧ ∃ Γ' s', SStep Γ1 H1 Γ' H' ∧ RS X.K Γ' σ' H' s' ∧ WS X.K W ca Γ' H' N (forL tgt (fun s => execB C p s) (ds.drop i) s'),
    ⟨ds.length, rfl, Nat.zero_le _, Γ1, s1, .refl, R1, w⟩, ?_⟩
  rintro i m σ2 H2 ⟨rfl, hi, Γ2, s2, st2, R2, w2⟩
  by_cases hlt : i < ds.length
  · refine .inr ⟨dr.go i H2 st2.keep hlt, fun σ' H' => (ds.length - (i + 1) = ds.length - (i + 1) ∧ i + 1 ≤ ds.length ∧ ∃ Γ' s', SStep Γ1 H1 Γ' H' ∧ RS X.K Γ' σ' H' s' ∧ WS X.K W ca Γ' H' N (forL tgt (fun s => execB C p s) (ds.drop (i + 1)) s')), fun σ' H' z => ⟨ds.length - (i + 1), by omega, z⟩, fun x H3 y => ?_⟩
    obtain ⟨d, hd, alt⟩ := dr.yld i H2 x H3 Γ2.F st2.keep st2.mono y hlt
    have here : ∃ Γ3, SStep Γ2 H2 Γ3 H3 ∧ RS X.K Γ3 σ2 H3 s2 ∧ Rep X.K Γ3.F H3 x d := by
      rcases alt with ⟨e, r⟩ | ⟨T, ws, es, rfl, hT, e, ed, r⟩
      · subst e; exact ⟨Γ2, .refl, R2, r⟩
      · subst e; subst ed
        obtain ⟨st3, R3⟩ := R2.lay (.tup ws) hT
        exact ⟨_, st3.ss, R3, rep_tup hT r⟩
    obtain ⟨Γ3, st3, R3, rp⟩ := here
    have w3 := WS.shift st3 w2
    have ed : ds.drop i = d :: ds.drop (i + 1) := by
      rw [List.drop_eq_getElem_cons hlt]
      rw [List.getElem?_eq_getElem hlt] at hd
      rw [Option.some.inj hd]
    rw [ed] at w3
    have w3 : WS X.K W ca Γ3 H3 N (match bindT tgt d s2 with
      | none => .stuck
      | some s1 => match execB C p s1 with
        | .nx s2 => forL tgt (fun s => execB C p s) (ds.drop (i + 1)) s2
        | .ct s2 => forL tgt (fun s => execB C p s) (ds.drop (i + 1)) s2
        | .bk s2 => .nx s2
        | o => o) := w3
    cases q : bindT tgt d s2 with
    | none => rw [q] at w3; exact w3.elim
    | some s3 =>
      rw [q] at w3
      dsimp only at w3
      refine tgt_ok R3 rp q fun σ4 R4 _ => i1 Γ3 σ4 H3 s3 _ R4 ?_
      cases z : execB C p s3 with
      | nx s4 => rw [z] at w3; exact fun Γ' σ' H' st R' => ⟨rfl, hlt, Γ', s4, (st2.trans st3).trans st, R', WS.shift st w3⟩
      | ct s4 => rw [z] at w3; exact fun Γ' σ' H' st R' => ⟨rfl, hlt, Γ', s4, (st2.trans st3).trans st, R', WS.shift st w3⟩
      | bk s4 => rw [z] at w3; exact w3
      | rt r s4 => rw [z] at w3; exact w3
      | exc k s4 => rw [z] at w3; exact w3
      | stuck => rw [z] at w3; exact w3
  · have e : i = ds.length := by omega
    subst e
    rw [List.drop_length] at w2
    exact .inl ⟨dr.stop H2 st2.keep, w2 Γ2 σ2 H2 .refl R2⟩
theorem ss_raise {k : Nat} {bmB : List Value} {B newId initId : String} {x m : Str} {j : Nat} {p p2 cpos : Pos} (hcm : X.calm = true) (tk : Takes X W) (F : PySem.ExcBaseFacts B newId initId bmB) (q : PySem.W.excIn X.K (ca k) bmB newId = true) (gC : X.mg x = some (.ref (ca k))) (kC : PySem.W.keepIn X.K (.ref (ca k)) = true) (r : Raises X (.ref (ca k))) (hg : Gl X x)
    (hdb : (x == ("__debug__" : Str)) = false) : SS C ca X W (.raise k) (.Raise (some (.Call (.Name x p) [.Constant (.str m) j p2] [] cpos)) none pos) :=
  ⟨_, L2.ps_raise hcm tk (L2.pmk_own F q gC kC r hg hdb), fun Γ σ H s N R h => by simp only [exec] at h; exact h Γ σ H .refl R⟩
end
end DL

/-! DL14: several values at once; comprehensions stored. -/
namespace DL
open PySem L2
/-- all are plain names, local, on the line l -/
def namesOn (l : Nat) : List Expr → Option (List Str)
  | [] => some []
  | .Name x p :: r => if p.line = l then (namesOn l r).map (x :: ·) else none
  | _ => none
section
variable {C : Call} {ca : CA} {X : Cx} {W : WX} {a b c : DE} {e e1 e2 e3 : Expr} {pos : Pos}
/-- the values are stored as they came -/
theorem par_read {is : List Nat} {ds : DEs} {t : TA} (ht : ∀ Γ σ H s Q, RS X.K Γ σ H s → WL X.K W ca Γ σ H s Q (evalEs C ds s) → t σ H Q) {Γ : Gh} {σ : St} {H : Hp} {s : S} {N : Ends} (R : RS X.K Γ σ H s) (h : WS X.K W ca Γ H N (exec C (.par is ds) s)) {Q : List V → Hp → Prop}
    (hQ : ∀ vs H1, vs.length = is.length → N.nx ((is.zip vs).foldl (fun σ p => σ.set p.1 (some p.2)) σ) H1 → (∀ p, H1 p = none → N.nx ((is.zip vs).foldl (fun σ p => σ.set p.1 (some p.2)) σ) (upd H1 p (.tup vs))) → Q vs H1) : t σ H Q := by
  simp only [exec] at h
  refine ht Γ σ H s _ R (WS.out0 h fun Γ1 H1 s1 rs st R1 w vs rv fr => ?_)
  split at w
  · rename_i hl
    obtain ⟨Γ2, st2, R2, hw⟩ := R1.freezeAll rv
    refine hQ vs H1 (by rw [hw.length]; exact hl) (w Γ2 _ H1 (st.trans st2).ss (puts_ok is vs rs σ _ R2 hw hl)) fun p hp => ?_
    obtain ⟨st3, R3⟩ := R1.layOwn (.tup vs) hp
    have rv3 : RVs X.K Γ1 σ (upd H1 p (.tup vs)) s1 vs rs := by
      clear fr hw st2 R2
      revert hp st3 R3
      generalize upd H1 p (.tup vs) = H3
      intro hp st3 R3
      clear w hl
      induction rv with
      | nil => exact .nil
      | cons a n h ih => exact .cons (a.step R1 R3 st3) n ih
    obtain ⟨Γ4, st4, R4, hw4⟩ := R3.freezeAll rv3
    exact w Γ4 _ _ ((st.trans st3).trans st4).ss (puts_ok is vs rs σ _ R4 hw4 hl)
  · exact w.elim
/-- no plain name of the def's own -/
def offLocal (sc : Scope) : Expr → Bool
  | .Name x _ => !isLocal sc x
  | _ => true
theorem kind_local {env : Env} {x : Str} : (env.kindOf x == some .local) = isLocal env.scope x := by
  unfold isLocal Env.kindOf
  cases env.scope.names.lookup x with
  | none => rfl
  | some k => cases k <;> rfl
theorem few_names {env : Env} {l : Nat} : ∀ {ts : List Expr}, (ts.filterMap fun
    | .Name id pos => if (env.kindOf id == some .local && pos.line == l) = true then some id else none
    | _ => none).length ≤ ts.length ∧ (ts.any (offLocal env.scope) = true → (ts.filterMap fun
    | .Name id pos => if (env.kindOf id == some .local && pos.line == l) = true then some id else none
    | _ => none).length < ts.length)
  | [] => ⟨Nat.le_refl _, fun h => by cases h⟩
  | t :: ts => by
    obtain ⟨h1, h2⟩ := few_names (env := env) (l := l) (ts := ts)
    rw [List.filterMap_cons, List.any_cons]
    split
    · refine ⟨Nat.le_succ_of_le h1, fun _ => Nat.lt_succ_of_le h1⟩
    · rename_i x hx
      refine ⟨Nat.succ_le_succ h1, fun h => ?_⟩
      rw [List.length_cons, List.length_cons]
      refine Nat.succ_lt_succ (h2 ?_)
      have : offLocal env.scope t = false := by
        cases t <;> simp only at hx <;> try cases hx
        rename_i id pos
        rw [kind_local] at hx
        cases q : isLocal env.scope id with
        | true => simp [offLocal, q]
        | false => rw [q] at hx; simp at hx
      rw [this, Bool.false_or] at h
      exact h
theorem sw_none {ts vs : List Expr} {k1 k2 : _} {p1 p2 : Pos} {env : Env} (h : ((ts.length ≠ 2 ∧ ts.length ≠ 3) ∨ vs.all (foldedForSure 8) = true) ∨ ts.any (offLocal env.scope) = true) : swappedStores [.Tuple ts k1 p1] (.Tuple vs k2 p2) env = pure none := by
  unfold swappedStores
  simp only
  split
  · rfl
  · split
    · rfl
    · split
      · rfl
      · rcases h with (h | h) | h
        · rename_i h1 _ _
          exfalso
          simp [h.1, h.2] at h1
        · rw [if_pos h]
        · rename_i h1 _ h2
          exfalso
          have := (few_names (env := env) (l := (ts.head?.map (·.pos.line)).getD 0) (ts := ts)).2 h
          simp only [Bool.or_eq_true, bne_iff_ne, ne_eq, not_or, Decidable.not_not] at h2
          exact absurd h2.1 (Nat.ne_of_lt this)
theorem filterMap_names {env : Env} {l : Nat} : ∀ {ts : List Expr} {ns : List Str}, namesOn l ts = some ns → (∀ x ∈ ns, env.kindOf x = some .local) → (ts.filterMap fun
    | .Name id pos => if (env.kindOf id == some .local && pos.line == l) = true then some id else none
    | _ => none) = ns ∧ ns.length = ts.length
  | [], ns, h, _ => by cases h; exact ⟨rfl, rfl⟩
  | t :: ts, ns, h, hl => by
    cases t <;> simp only [namesOn] at h <;> try cases h
    rename_i x p
    split at h
    · rename_i hp
      cases q : namesOn l ts with
      | none => rw [q] at h; cases h
      | some ms =>
        rw [q] at h
        cases h
        obtain ⟨h1, h2⟩ := filterMap_names (env := env) q fun y m => hl y (List.mem_cons_of_mem _ m)
        refine ⟨?_, congrArg (· + 1) h2⟩
        rw [List.filterMap_cons]
        simp only [hl x List.mem_cons_self, hp, beq_self_eq_true, Bool.and_self, if_true]
        rw [h1]
    · cases h
theorem eraseDups_nodup {l : List Str} (h : l.Nodup) : l.eraseDups = l := by
  induction l with
  | nil => rfl
  | cons x r ih =>
    have h := List.nodup_cons.mp h
    rw [List.eraseDups_cons]
    congr 1
    have : r.filter (fun b => !b == x) = r := by
      rw [List.filter_eq_self]
      intro b hb
      have : b ≠ x := fun e => h.1 (e ▸ hb)
      simp [this]
    rw [this]
    exact ih h.2
theorem sw_some {ts vs : List Expr} {k1 k2 : _} {p1 p2 : Pos} {env : Env} {ns : List Str} (hl : ts.length = 2 ∨ ts.length = 3) (hv : vs.length = ts.length) (hk : env.scope.kind = .function) (pl : ∀ e ∈ vs, plainX e = true) (hn : namesOn ((ts.head?.map (·.pos.line)).getD 0) ts = some ns)
    (hloc : ∀ x ∈ ns, env.kindOf x = some .local) (nd : ns.Nodup) (h1 : vs.all (foldedForSure 8) = false) (h2 : vs.all (constantsAlone 8) = false) : swappedStores [.Tuple ts k1 p1] (.Tuple vs k2 p2) env = pure (some ns) := by
  obtain ⟨g1, g2⟩ := filterMap_names (env := env) hn hloc
  have hb : env.blockKind = .function := by unfold Env.blockKind; rw [hk]; rfl
  unfold swappedStores
  simp only
  have c1 : (!(ts.length == 2 || ts.length == 3) || vs.length != ts.length || env.blockKind != .function) = false := by
    rw [hb, hv]
    rcases hl with e | e <;> simp [e] <;> rfl
  rw [if_neg (by rw [c1]; exact Bool.false_ne_true), if_neg (by
    intro h
    obtain ⟨e, m, q⟩ := List.any_eq_true.mp h
    have := pl e m
    cases e <;> simp [plainX] at this q)]
  erw [g1]
  rw [if_neg (by simp [g2, eraseDups_nodup nd]), if_neg (by rw [h1]; exact Bool.false_ne_true), if_neg (by rw [h2]; exact Bool.false_ne_true)]
theorem zip2 {i j : Nat} {vs : List V} {Q : St → Prop} {σ : St} (hl : vs.length = [i, j].length) (q : Q (([i, j].zip vs).foldl (fun σ p => σ.set p.1 (some p.2)) σ)) : ∃ v w, vs = [v, w] ∧ Q ((σ.set i (some v)).set j (some w)) := by
  match vs, hl with
  | [v, w], _ => exact ⟨v, w, rfl, q⟩
theorem zip3 {i j l : Nat} {vs : List V} {Q : St → Prop} {σ : St} (hl : vs.length = [i, j, l].length) (q : Q (([i, j, l].zip vs).foldl (fun σ p => σ.set p.1 (some p.2)) σ)) : ∃ u v w, vs = [u, v, w] ∧ Q (((σ.set i (some u)).set j (some v)).set l (some w)) := by
  match vs, hl with
  | [u, v, w], _ => exact ⟨u, v, w, rfl, q⟩
theorem ss_par0 {is : List Nat} {ds : DEs} {ts vs : List Expr} {k1 k2 : _} {p1 p2 : Pos} (hlen : is.length ≤ 1000) (hA : SA C ca X W ds vs) (hg : PG X (.Tuple ts k1 p1) (gOf X.K (.tp is))) (hn : ((ts.length ≠ 2 ∧ ts.length ≠ 3) ∨ vs.all (foldedForSure 8) = true) ∨ ts.any (offLocal X.env.scope) = true) :
    SS C ca X W (.par is ds) (.Assign [.Tuple ts k1 p1] (.Tuple vs k2 p2) pos) := by
  obtain ⟨t, pt, i⟩ := hA.ex
  refine ⟨_, ps_asg (pe_tup pt) hg rfl (sw_none hn) rfl, fun Γ σ H s N R h => ?_⟩
  show t σ H fun xs H1 => xs.length ≤ sizeLine ∧ ∀ p, H1 p = none → gTup X.K is.length (gNames is) (.ref p) σ (upd H1 p (.tup xs)) N.nx
  exact par_read i R h fun vs H1 hl _ h2 => ⟨by rw [hl]; exact Nat.le_trans hlen (by decide), fun p hp => ⟨p, vs, rfl, SqT.of upd_same, hl, puts_names (K := X.K) is vs σ hl (h2 p hp)⟩⟩
theorem lookup_of {i : Nat} {x : Str} (h : X.env.kindOf x = some .local) : X.env.scope.names.lookup x = some .local := h
theorem ss_par2 {i j : Nat} {ds : DEs} {x y : Str} {px py p1 p2 : Pos} {u v : Expr} {k1 k2 : _} (hcm : X.calm = true) (nd : X.N.Nodup) (hi : X.N[i]? = some x) (hj : X.N[j]? = some y) (hij : i ≠ j) (hx : X.env.scope.names.lookup x = some .local) (hy : X.env.scope.names.lookup y = some .local)
    (hA : SA C ca X W ds [u, v]) (hk : X.env.scope.kind = .function) (pl : ∀ e ∈ [u, v], plainX e = true) (hl : py.line = px.line) (h1 : [u, v].all (foldedForSure 8) = false) (h2 : [u, v].all (constantsAlone 8) = false) :
    SS C ca X W (.par [i, j] ds) (.Assign [.Tuple [.Name x px, .Name y py] k1 p1] (.Tuple [u, v] k2 p2) pos) := by
  obtain ⟨t, pt, it⟩ := hA.ex
  have ne : x ≠ y := fun e => by
    subst e
    have hil : i < X.N.length := (List.getElem?_eq_some_iff.mp hi).1
    have := (List.getElem?_inj hil nd).mp (hi.trans hj.symm)
    exact hij this
  refine ⟨_, ps_par hcm nd hi hj hij hx hy pt (sw_some (.inl rfl) rfl hk pl (by simp [namesOn, hl, Expr.pos]) (fun z m => ?_) (by simp [ne]) h1 h2) rfl, fun Γ σ H s N R h => par_read it R h fun vs H1 hl n _ => zip2 (Q := fun σ => N.nx σ H1) hl n⟩
  rcases List.mem_cons.mp m with e | m
  · subst e; exact hx
  · rw [List.mem_singleton.mp m]; exact hy
theorem ne_of_slots {i j : Nat} {x y : Str} (nd : X.N.Nodup) (hi : X.N[i]? = some x) (hj : X.N[j]? = some y) (hij : i ≠ j) : x ≠ y := fun e => by
  subst e
  have hil : i < X.N.length := (List.getElem?_eq_some_iff.mp hi).1
  exact hij ((List.getElem?_inj hil nd).mp (hi.trans hj.symm))
theorem ss_par3 {i j l : Nat} {ds : DEs} {x y z : Str} {px py pz p1 p2 : Pos} {u v w : Expr} {k1 k2 : _} (hcm : X.calm = true) (nd : X.N.Nodup) (hi : X.N[i]? = some x) (hj : X.N[j]? = some y) (hl : X.N[l]? = some z) (hij : i ≠ j) (hil : i ≠ l) (hjl : j ≠ l)
    (hx : X.env.scope.names.lookup x = some .local) (hy : X.env.scope.names.lookup y = some .local) (hz : X.env.scope.names.lookup z = some .local)
    (hA : SA C ca X W ds [u, v, w]) (hk : X.env.scope.kind = .function) (pl : ∀ e ∈ [u, v, w], plainX e = true) (hl1 : py.line = px.line) (hl2 : pz.line = px.line) (h1 : [u, v, w].all (foldedForSure 8) = false) (h2 : [u, v, w].all (constantsAlone 8) = false) :
    SS C ca X W (.par [i, j, l] ds) (.Assign [.Tuple [.Name x px, .Name y py, .Name z pz] k1 p1] (.Tuple [u, v, w] k2 p2) pos) := by
  obtain ⟨t, pt, it⟩ := hA.ex
  have n1 := ne_of_slots nd hi hj hij
  have n2 := ne_of_slots nd hi hl hil
  have n3 := ne_of_slots nd hj hl hjl
  refine ⟨_, L2.ps_par3 hcm nd hi hj hl hij hil hjl hx hy hz pt (sw_some (.inr rfl) rfl hk pl (by simp [namesOn, hl1, hl2, Expr.pos]) (fun q m => ?_) (by simp [n1, n2, n3]) h1 h2) rfl, fun Γ σ H s N R h => par_read it R h fun vs H1 hl n _ => zip3 (Q := fun σ => N.nx σ H1) hl n⟩
  rcases List.mem_cons.mp m with e | m
  · subst e; exact hx
  · rcases List.mem_cons.mp m with e | m
    · subst e; exact hy
    · rw [List.mem_singleton.mp m]; exact hz

/-! a comprehension goes to a name -/
def isLC : Expr → Bool
  | .ListComp _ _ _ _ => true
  | .SetComp _ _ _ _ => true
  | .DictComp _ _ _ _ _ => true
  | _ => false
theorem sw_notLC {e : Expr} (h : isLC e = false) (t : Option Expr) (l : Nat) (env : Env) : swapsWith e t l env = pure false := by
  cases e <;> first
    | rfl
    | cases h
theorem sole_notLC {e t : Expr} (h : isLC e = false) (l : Nat) (env : Env) : swapsWithSole [t] e l env = pure false := sw_notLC h _ l env
theorem sw_tuple_not {ts : List Expr} {k1 : _} {p1 : Pos} {e : Expr} {env : Env} (h : ∀ vs k p, e ≠ .Tuple vs k p) : swappedStores [.Tuple ts k1 p1] e env = pure none := by
  cases e <;> first
    | rfl
    | exact absurd rfl (h _ _ _)
/-- whether the stores are exchanged -/
def swLC (sc : Scope) (scope : Scope) (x : Str) (p vp : Pos) : Bool := isLocal sc x && decide (p.line = vp.line) && !(scope.names.any fun (n, k) => n == x && (k == .local || k == .cell))
theorem swLC_ok {elt : Expr} {gs : List Comprehension} {scope : Scope} {vp p : Pos} {x : Str} {l : Nat} {env : Env} (hk : env.scope.kind = .function) : swapsWith (.ListComp elt gs scope vp) (some (.Name x p)) l env = pure (swLC env.scope scope x p vp) := by
  have hb : env.blockKind = .function := by unfold Env.blockKind; rw [hk]; rfl
  have h2 : (env.kindOf x == some .local) = isLocal env.scope x := by
    unfold isLocal Env.kindOf
    cases q : env.scope.names.lookup x with
    | none => rfl
    | some k => cases k <;> rfl
  unfold swapsWith swLC
  simp only [hb, Expr.pos, h2, beq_self_eq_true, Bool.true_and]
  rfl
theorem ss_asgLc {i : Nat} {x : Str} {src : DSrc} {tgt : Tgt} {own : List (Str × Nat)} {cond : DO} {elt : DE} {eltE tg it : Expr} {ifs : List Expr} {scope : Scope} {p vp : Pos} (hcm : X.calm = true) (nd : X.N.Nodup) (hi : X.N[i]? = some x) (hx : Sto X x) (hk : X.env.scope.kind = .function)
    (hS : SI C ca X W src tg it) (hsl : ∀ i ∈ tgt.slots, i ∈ own.map (·.2)) (ok : BlkOk X.N X.env.scope scope own)
    (hg : ∀ (s : Shared) (H : Hp) (c : Addr) (cl : List (Str × Addr)) (fp : List Addr), PG (X.blk s H scope (compEnvC scope cl c X.env) fp) tg (gOf X.K tgt))
    (hc : ∀ (s : Shared) (H : Hp) (c : Addr) (cl : List (Str × Addr)) (fp : List Addr), PTs (X.blk s H scope (compEnvC scope cl c X.env) fp) ifs (tC C ca X.K cond))
    (he : ∀ (s : Shared) (H : Hp) (c : Addr) (cl : List (Str × Addr)) (fp : List Addr), PE (X.blk s H scope (compEnvC scope cl c X.env) fp) eltE (tE C ca X.K W0 elt)) (hs : ∀ x, foldedSetIterable it X.env x = pure x) :
    SS C ca X W (.asg i (.lc src tgt own cond elt)) (.Assign [.Name x p] (.ListComp eltE [⟨tg, it, ifs, 0⟩] scope vp) pos) := by
  obtain ⟨wi, pi, rd⟩ := lc_read (W := W) (cond := cond) (elt := elt) hS hsl
  cases q : swLC X.env.scope scope x p vp with
  | true =>
    have hl : X.env.scope.names.lookup x = some .local := by
      simp only [swLC, Bool.and_eq_true] at q
      exact local_of q.1.1
    exact ⟨_, ps_setLc hcm nd hi hl (by rw [swLC_ok hk, q]) pi ok hg hc he hs, asg_read rd⟩
  | false => exact ⟨_, ps_set nd hi hx.loc (pe_lc hcm nd pi ok hg hc he hs) (by rw [swLC_ok hk, q]) hx.fn, asg_read rd⟩
end
end DL

/-! DL15: the check of statements, and that what is checked is sound. -/
namespace DL
open PySem L2
structure XOkS (exs : List (Nat × Str)) (c : Ctx) (C : Call) (n : Nat) (ca : CA) (X : Cx) (W : WX) : Prop extends XOk c C n ca X W where
  fn : ∀ x, X.fn x = true
  kind : c.sc.kind = .function
  pass : PassesOwn (model X.prog X.w) X.A X.env X.xe
  excs : ∀ k x, (k, x) ∈ exs → ∃ (bmB : List Value) (B newId initId : String), PySem.ExcBaseFacts B newId initId bmB ∧ PySem.W.excIn X.K (ca k) bmB newId = true ∧ X.mg x = some (.ref (ca k)) ∧ PySem.W.keepIn X.K (.ref (ca k)) = true ∧ Raises X (.ref (ca k))
def slotOk (c : Ctx) (i : Nat) (x : Str) : Bool := decide (c.N[i]? = some x) && isVis c.sc x && okName x
def slotL (c : Ctx) (i : Nat) (x : Str) : Bool := decide (c.N[i]? = some x) && isLocal c.sc x
def notTup : Expr → Bool
  | .Tuple _ _ _ => false
  | _ => true
def chkLc (src : DSrc) (tgt : Tgt) (own : List (Str × Nat)) (cond : DO) (elt : DE) (c : Ctx) (x tg it : Expr) (ifs : List Expr) (scope : Scope) : Bool :=
  blkC c.N c.sc scope own && chkS src c tg it && chkT false tgt c (relS scope c.sc) tg && (tgt.slots.all fun i => (own.map (·.2)).contains i) && chkI cond { c with sc := relS scope c.sc } ifs && chkE elt { c with sc := relS scope c.sc } x
def chkAsg : DE → Ctx → Expr → Bool
  | .lc src tgt own cond elt, c, e => match e with
    | .ListComp x [⟨tg, it, ifs, isA⟩] scope _ => decide (isA = 0) && chkLc src tgt own cond elt c x tg it ifs scope
    | _ => false
  | d, c, e => chkE d c e && !isLC e
def chkPar (is : List Nat) (c : Ctx) (ts vs : List Expr) : Bool :=
  match is, ts, vs with
  | [i, j], [.Name x px, .Name y py], [u, v] => slotL c i x && slotL c j y && decide (i ≠ j) && decide (py.line = px.line) && !([u, v].all (foldedForSure 8)) && !([u, v].all (constantsAlone 8))
  | [i, j, l], [.Name x px, .Name y py, .Name z pz], [u, v, w] => slotL c i x && slotL c j y && slotL c l z && decide (i ≠ j) && decide (i ≠ l) && decide (j ≠ l) && decide (py.line = px.line) && decide (pz.line = px.line) && !([u, v, w].all (foldedForSure 8)) && !([u, v, w].all (constantsAlone 8))
  | _, _, _ => false
mutual
def chkSt (exs : List (Nat × Str)) : DS → Ctx → Stmt → Bool
  | .asg i e, c, st => match st with
    | .Assign [.Name x _] v _ => decide (c.N[i]? = some x) && isLoc true c.sc x && chkAsg e c v
    | _ => false
  | .asgT is e, c, st => match st with
    | .Assign [.Tuple ts k p] v _ => chkT true (.tp is) c c.sc (.Tuple ts k p) && chkE e c v && !isLC v && notTup v
    | _ => false
  | .par is es, c, st => match st with
    | .Assign [.Tuple ts k p] (.Tuple vs _ _) _ => chkEs es c vs && (chkPar is c ts vs ||
        (chkT true (.tp is) c c.sc (.Tuple ts k p) && decide (is.length ≤ 1000) && (decide (ts.length ≠ 2 ∧ ts.length ≠ 3) || vs.all (foldedForSure 8) || ts.any (offLocal c.sc))))
    | _ => false
  | .setix i j e, c, st => match st with
    | .Assign [.Subscript (.Name x _) e2 _] v _ => slotOk c i x && chkE j c e2 && chkE e c v
    | _ => false
  | .append i e, c, st => match st with
    | .Expr (.Call (.Attribute (.Name x _) n apos) [v] [] cpos) _ => slotOk c i x && decide (n = ("append" : Str)) && chkE e c v && (apos.endLine == cpos.line)
    | _ => false
  | .extend i e, c, st => match st with
    | .Expr (.Call (.Attribute (.Name x _) n apos) [v] [] cpos) _ => slotOk c i x && decide (n = ("extend" : Str)) && chkE e c v && (apos.endLine == cpos.line)
    | _ => false
  | .expr e, c, st => match st with
    | .Expr v _ => chkE e c v && !isLC v
    | _ => false
  | .ret e, c, st => match st with
    | .Return (some v) _ => chkE e c v
    | _ => false
  | .ite t a b, c, st => match st with
    | .If e ps qs _ => chkE t c e && notIfe t && chkSs exs a c ps && chkSs exs b c qs
    | _ => false
  | .for tgt src body, c, st => match st with
    | .For tg it ps [] _ => chkS src c tg it && chkT true tgt c c.sc tg && chkSs exs body c ps
    | _ => false
  | .while t body, c, st => match st with
    | .While e ps [] _ => chkE t c e && notIfe t && chkSs exs body c ps
    | _ => false
  | .brk, _, st => match st with
    | .Break _ => true
    | _ => false
  | .pass, _, st => match st with
    | .Pass _ => true
    | _ => false
  | .raise k, c, st => match st with
    | .Raise (some (.Call (.Name x _) [.Constant (.str _) _ _] [] _)) none _ => decide ((k, x) ∈ exs) && isGl c.sc x && okName x
    | _ => false
def chkSs (exs : List (Nat × Str)) : DB → Ctx → List Stmt → Bool
  | .nil, _, sts => match sts with
    | [] => true
    | _ => false
  | .cons d ds, c, sts => match sts with
    | st :: r => chkSt exs d c st && chkSs exs ds c r
    | _ => false
end
section
variable {exs : List (Nat × Str)} {C : Call} {n : Nat} {ca : CA}
theorem slotL_of {c : Ctx} {i : Nat} {x : Str} {X : Cx} {W : WX} (hX : XOk c C n ca X W) (h : slotL c i x = true) : X.N[i]? = some x ∧ X.env.scope.names.lookup x = some .local := by
  simp only [slotL, Bool.and_eq_true, decide_eq_true_eq] at h
  exact ⟨by rw [hX.hN]; exact h.1, by rw [hX.sc]; exact local_of h.2⟩
theorem snd_asg {d : DE} {i : Nat} {c : Ctx} {X : Cx} {W : WX} {x : Str} {p pos : Pos} {e : Expr} (hX : XOkS exs c C n ca X W) (h0 : c.N[i]? = some x) (h1 : isLoc true c.sc x = true) (h2 : chkAsg d c e = true) : SS C ca X W (.asg i d) (.Assign [.Name x p] e pos) := by
  have nd' : X.N.Nodup := by rw [hX.hN]; exact hX.nd
  have hi : X.N[i]? = some x := by rw [hX.hN]; exact h0
  have sto : Sto X x := sto_of hX.sc (fun _ => hX.fn) h1
  have plain : (chkE d c e && !isLC e) = true → SS C ca X W (.asg i d) (.Assign [.Name x p] e pos) := fun q => by
    simp only [Bool.and_eq_true, Bool.not_eq_true'] at q
    exact ss_asg nd' hi sto (snd_E d c X W e hX.toXOk q.1).1 (sw_notLC q.2 _ _ _)
  cases d with
  | lc src tgt own cond elt =>
    simp only [chkAsg] at h2
    split at h2
    · rename_i y tg it ifs isA scope vp
      simp only [chkLc, Bool.and_eq_true, decide_eq_true_eq] at h2
      obtain ⟨h0', ⟨⟨⟨⟨g1, g2⟩, g3⟩, g4⟩, g5⟩, g6⟩ := h2
      subst h0'
      have g4' : ∀ i ∈ tgt.slots, i ∈ own.map (·.2) := fun i m => by simpa using List.all_eq_true.mp g4 i m
      refine ss_asgLc hX.calm nd' hi sto (by rw [hX.sc]; exact hX.kind) (snd_S src c X W tg it hX.toXOk g2) g4' (by rw [hX.hN, hX.sc]; exact blkOk_by g1) (fun s H a cl fp => ?_) (fun s H a cl fp => ?_) (fun s H a cl fp => ?_) (fun x => ?_)
      · have hB := hX.toXOk.blk scope s H a cl fp
        exact pg_tgt (fl := false) (t := tgt) (c := c) hB.hN hX.nd hB.calm hB.sc (fun z => by cases z) g3
      · exact snd_I cond _ _ ifs (hX.toXOk.blk scope s H a cl fp) g5
      · exact (snd_E elt _ _ W0 y (hX.toXOk.blk scope s H a cl fp) g6).1.pe
      · exact src_plain g2 X.env x
    · cases h2
  | _ => exact plain h2
theorem snd_par {is : List Nat} {es : DEs} {c : Ctx} {X : Cx} {W : WX} {ts vs : List Expr} {k1 k2 : _} {p1 p2 pos : Pos} (hX : XOkS exs c C n ca X W) (hA : chkEs es c vs = true) (h : chkPar is c ts vs = true) : SS C ca X W (.par is es) (.Assign [.Tuple ts k1 p1] (.Tuple vs k2 p2) pos) := by
  have nd' : X.N.Nodup := by rw [hX.hN]; exact hX.nd
  have a := (snd_Es es c X W vs hX.toXOk hA).1
  have hk : X.env.scope.kind = .function := by rw [hX.sc]; exact hX.kind
  have pl := chks_plain hA
  unfold chkPar at h
  split at h
  · simp only [Bool.and_eq_true, decide_eq_true_eq, Bool.not_eq_true'] at h
    obtain ⟨⟨⟨⟨⟨h1, h2⟩, h3⟩, h4⟩, h5⟩, h6⟩ := h
    obtain ⟨a1, a2⟩ := slotL_of hX.toXOk h1
    obtain ⟨b1, b2⟩ := slotL_of hX.toXOk h2
    exact ss_par2 hX.calm nd' a1 b1 h3 a2 b2 a hk pl h4 h5 h6
  · simp only [Bool.and_eq_true, decide_eq_true_eq, Bool.not_eq_true'] at h
    obtain ⟨⟨⟨⟨⟨⟨⟨⟨⟨h1, h2⟩, h3⟩, h4⟩, h5⟩, h6⟩, h7⟩, h8⟩, h9⟩, h10⟩ := h
    obtain ⟨a1, a2⟩ := slotL_of hX.toXOk h1
    obtain ⟨b1, b2⟩ := slotL_of hX.toXOk h2
    obtain ⟨c1, c2⟩ := slotL_of hX.toXOk h3
    exact DL.ss_par3 hX.calm nd' a1 b1 c1 h4 h5 h6 a2 b2 c2 a hk pl h7 h8 h9 h10
  · cases h
theorem slotOk_of {c : Ctx} {i : Nat} {x : Str} {X : Cx} {W : WX} (hX : XOk c C n ca X W) (h : slotOk c i x = true) : X.N[i]? = some x ∧ Vis X.env.scope x ∧ (x == ("__debug__" : Str)) = false ∧ (x == ("__classdict__" : Str)) = false := by
  simp only [slotOk, Bool.and_eq_true, decide_eq_true_eq] at h
  exact ⟨by rw [hX.hN]; exact h.1.1, by rw [hX.sc]; exact vis_of h.1.2, okName_of h.2⟩
mutual
theorem snd_St : ∀ (d : DS) (c : Ctx) (X : Cx) (W : WX) (st : Stmt), XOkS exs c C n ca X W → chkSt exs d c st = true → SS C ca X W d st
  | .asg i e, c, X, W, st, hX, h => by
    simp only [chkSt] at h
    split at h
    · simp only [Bool.and_eq_true, decide_eq_true_eq] at h
      exact snd_asg hX h.1.1 h.1.2 h.2
    · cases h
  | .asgT is e, c, X, W, st, hX, h => by
    simp only [chkSt] at h
    split at h
    · simp only [Bool.and_eq_true, Bool.not_eq_true'] at h
      obtain ⟨⟨⟨h1, h2⟩, h3⟩, h4⟩ := h
      refine ss_asgT (snd_E e c X W _ hX.toXOk h2).1 (pg_tgt (fl := true) hX.hN hX.nd hX.calm hX.sc (fun _ => hX.fn) h1) (sole_notLC h3 _ _) (sw_tuple_not fun vs k p q => by subst q; cases h4) rfl
    · cases h
  | .par is es, c, X, W, st, hX, h => by
    simp only [chkSt] at h
    split at h
    · simp only [Bool.and_eq_true, Bool.or_eq_true, decide_eq_true_eq] at h
      obtain ⟨h1, h2 | ⟨⟨h2, h3⟩, h4⟩⟩ := h
      · exact snd_par hX h1 h2
      · exact ss_par0 h3 (snd_Es es c X W _ hX.toXOk h1).1 (pg_tgt (fl := true) hX.hN hX.nd hX.calm hX.sc (fun _ => hX.fn) h2) (by rw [hX.sc]; exact h4)
    · cases h
  | .setix i j e, c, X, W, st, hX, h => by
    simp only [chkSt] at h
    split at h
    · simp only [Bool.and_eq_true] at h
      obtain ⟨⟨h1, h2⟩, h3⟩ := h
      obtain ⟨a1, a2, a3, a4⟩ := slotOk_of hX.toXOk h1
      exact ss_setix (by have := room_65 hX.room; omega) a1 a2 a3 a4 (snd_E j c X W _ hX.toXOk h2).1 (chk_plain h2) (snd_E e c X W _ hX.toXOk h3).1
    · cases h
  | .append i e, c, X, W, st, hX, h => by
    simp only [chkSt] at h
    split at h
    · simp only [Bool.and_eq_true, decide_eq_true_eq] at h
      obtain ⟨⟨⟨h1, h2⟩, h3⟩, h4⟩ := h
      subst h2
      obtain ⟨a1, a2, a3, a4⟩ := slotOk_of hX.toXOk h1
      exact ss_append a1 a2 a3 a4 (snd_E e c X W _ hX.toXOk h3).1 (chk_plain h3) h4
    · cases h
  | .extend i e, c, X, W, st, hX, h => by
    simp only [chkSt] at h
    split at h
    · simp only [Bool.and_eq_true, decide_eq_true_eq] at h
      obtain ⟨⟨⟨h1, h2⟩, h3⟩, h4⟩ := h
      subst h2
      obtain ⟨a1, a2, a3, a4⟩ := slotOk_of hX.toXOk h1
      exact ss_extend a1 a2 a3 a4 (snd_E e c X W _ hX.toXOk h3).1 (chk_plain h3) h4
    · cases h
  | .expr e, c, X, W, st, hX, h => by
    simp only [chkSt] at h
    split at h
    · simp only [Bool.and_eq_true, Bool.not_eq_true'] at h
      exact ss_expr (snd_E e c X W _ hX.toXOk h.1).1 (sw_notLC h.2 _ _ _)
    · cases h
  | .ret e, c, X, W, st, hX, h => by
    simp only [chkSt] at h
    split at h
    · exact ss_ret (snd_E e c X W _ hX.toXOk h).1
    · cases h
  | .ite t a b, c, X, W, st, hX, h => by
    simp only [chkSt] at h
    split at h
    · simp only [Bool.and_eq_true] at h
      obtain ⟨⟨⟨h1, h2⟩, h3⟩, h4⟩ := h
      exact ss_ite ((snd_E t c X W _ hX.toXOk h1).2 h2) (snd_Ss a c X W _ hX h3) (snd_Ss b c X W _ hX h4)
    · cases h
  | .for tgt src body, c, X, W, st, hX, h => by
    simp only [chkSt] at h
    split at h
    · simp only [Bool.and_eq_true] at h
      obtain ⟨⟨h1, h2⟩, h3⟩ := h
      exact ss_for hX.pass hX.calm (snd_S src c X W _ _ hX.toXOk h1) (pg_tgt (fl := true) hX.hN hX.nd hX.calm hX.sc (fun _ => hX.fn) h2) (snd_Ss body c X W _ hX h3) fun x => src_plain h1 X.env x
    · cases h
  | .while t body, c, X, W, st, hX, h => by
    simp only [chkSt] at h
    split at h
    · simp only [Bool.and_eq_true] at h
      obtain ⟨⟨h1, h2⟩, h3⟩ := h
      exact ss_while hX.pass ((snd_E t c X W _ hX.toXOk h1).2 h2) (snd_Ss body c X W _ hX h3)
    · cases h
  | .brk, c, X, W, st, hX, h => by
    simp only [chkSt] at h
    split at h
    · exact ss_brk
    · cases h
  | .pass, c, X, W, st, hX, h => by
    simp only [chkSt] at h
    split at h
    · exact ss_pass
    · cases h
  | .raise k, c, X, W, st, hX, h => by
    simp only [chkSt] at h
    split at h
    · simp only [Bool.and_eq_true, decide_eq_true_eq] at h
      obtain ⟨⟨h1, h2⟩, h3⟩ := h
      obtain ⟨bmB, B, newId, initId, g1, g2, g3, g4, g5⟩ := hX.excs _ _ h1
      exact ss_raise hX.calm hX.tk g1 g2 g3 g4 g5 (hX.toXOk.gl h2) (okName_of h3).1
    · cases h
theorem snd_Ss : ∀ (d : DB) (c : Ctx) (X : Cx) (W : WX) (st : List Stmt), XOkS exs c C n ca X W → chkSs exs d c st = true → SSs C ca X W d st
  | .nil, c, X, W, st, hX, h => by
    simp only [chkSs] at h
    split at h
    · exact sss_nil
    · cases h
  | .cons d ds, c, X, W, st, hX, h => by
    simp only [chkSs] at h
    split at h
    · simp only [Bool.and_eq_true] at h
      exact sss_cons (snd_St d c X W _ hX h.1) (snd_Ss ds c X W _ hX h.2)
    · cases h
end
end
end DL

/-! DL16: the defs of a program, called to a depth. -/
namespace DL
open PySem L2
/-- the defs that a text has: their places in the table and their syntax -/
abbrev Defs := List (Nat × Stmt)
def fnsOf (T : List FD) (ds : Defs) : List (Nat × Str × Nat) := ds.filterMap fun p => (T[p.1]?).map fun f => (p.1, f.name, f.ar)
def FD.ps (f : FD) : List Str := f.N.take f.ar
def FD.ctx (fns : List (Nat × Str × Nat)) (gi : List (Str × Int)) (f : FD) (st : Stmt) : Ctx := { p := { fns := fns, gints := gi }, N := f.N, sc := defScope st }
def chkDef (fns : List (Nat × Str × Nat)) (exs : List (Nat × Str)) (gi : List (Str × Int)) (f : FD) (st : Stmt) : Bool :=
  C8.scC f.N f.ps (defScope st) && decide (f.ar ≤ f.N.length) && chkSs exs f.body (f.ctx fns gi st) (defBody st)
structure PFacts (T : List FD) (sts : Defs) (exs : List (Nat × Str)) (gi : List (Str × Int)) (ca : CA) (K : PySem.W.Frag) (mg : Str → Option Value) : Prop where
  chk : ∀ (k : Nat) f st, (k, st) ∈ sts → T[k]? = some f → chkDef (fnsOf T sts) exs gi f st = true
  fns : ∀ (k : Nat) f st, (k, st) ∈ sts → T[k]? = some f → ∃ (a : Addr) (fd : FuncData), Fun K f.name f.name st a fd ∧ mg f.name = some (.ref a) ∧ ∀ us : List Value, us.length = f.ps.length → bindArgs fd ⟨us, []⟩ = pure (f.ps.zip us)
  gints : ∀ x i, (x, i) ∈ gi → ∃ t, mg x = some (.int i t)
  blt : ∀ x : Str, x ∈ bltNames → mg x = none
  excs : ∀ (k : Nat) (x : Str), (k, x) ∈ exs → ∃ (bmB : List Value) (B newId initId : String), PySem.ExcBaseFacts B newId initId bmB ∧ PySem.W.excIn K (ca k) bmB newId = true ∧ mg x = some (.ref (ca k)) ∧ PySem.W.keepIn K (.ref (ca k)) = true ∧ PySem.W.subIn K (.ref (ca k)) (.type "BaseException") = some true ∧ PySem.W.typeIn K (.ref (ca k)) = some (.type "type")
section
variable {T : List FD} {sts : Defs} {exs : List (Nat × Str)} {gi : List (Str × Int)} {ca : CA} {K : PySem.W.Frag} {mg : Str → Option Value} {P : Program} {w : World} {base : Heap}
theorem rs_start {F : Addr → Prop} {H : Hp} {vs : List V} {ds : List D} {N : List Str} (ht : ∀ p, F p → H p ≠ none) (r : RepL K F H vs ds) : RS K ⟨F, F, H⟩ (L2.start N vs) H ⟨DL.start N ds, []⟩ := by
  have el := r.length
  have noOwn : ∀ {i : Nat} {d : D}, (DL.start N ds)[i]? = some (.own d) → False := fun {i d} e => by
    unfold DL.start at e
    rw [List.getElem?_append] at e
    split at e
    · rw [List.getElem?_map] at e
      cases q : ds[i]? <;> rw [q] at e <;> cases e
    · rw [List.getElem?_replicate] at e
      split at e <;> cases e
  refine ⟨?_, fun i d e => ?_, fun i d e => (noOwn e).elim, fun i j di dj e _ _ => (noOwn e).elim, fun a o e => e, ht, fun a h => .inl h, rfl⟩
  · show (DL.start N ds).length = (L2.start N vs).length
    unfold DL.start L2.start
    simp [el]
  · have e : (DL.start N ds)[i]? = some (.fro d) := e
    unfold DL.start at e
    rw [List.getElem?_append] at e
    split at e
    · rename_i hi
      rw [List.getElem?_map] at e
      cases q : ds[i]? with
      | none => rw [q] at e; cases e
      | some d' =>
        rw [q] at e
        cases e
        obtain ⟨v, h1, h2⟩ := r.get q
        refine ⟨v, ?_, h2⟩
        have hi : i < vs.length := (List.getElem?_eq_some_iff.mp h1).1
        unfold L2.start
        rw [List.getElem?_append_left (by simpa using hi), List.getElem?_map, h1]
        rfl
    · rw [List.getElem?_replicate] at e
      split at e <;> cases e
/-- what a def hands back -/
theorem ws_finish {F : Addr → Prop} {H : Hp} {o : Out} {Q : VK} {E : XK} (h : match finish o with
  | .ok d own w => ∀ (F' : Addr → Prop) H' v, (∀ p, F p → F' p) → (∀ p, F' p → F p ∨ H p = none) → (∀ p o, H p = some o → H' p = some o) → (∀ p, F' p → H' p ≠ none) → w = [] →
      (if own then ∃ p, v = .ref p ∧ ¬ F' p ∧ H p = none ∧ Cell K F' H' p d else Rep K F' H' v d) → Q v H'
  | .exc k w => ∀ (F' : Addr → Prop) H', (∀ p, F p → F' p) → (∀ p, F' p → F p ∨ H p = none) → (∀ p o, H p = some o → H' p = some o) → (∀ p, F' p → H' p ≠ none) → w = [] → E (.ref (ca k)) none H'
  | .stuck => False) : WS K (fun cls d _ H => E cls d H) ca ⟨F, F, H⟩ H { nx := fun _ H' => Q .non H', rt := Q } o := by
  have nw : ∀ {Γ' : Gh} {σ' : St} {H' : Hp} {s' : S}, SStep ⟨F, F, H⟩ H Γ' H' → RS K Γ' σ' H' s' → (∀ p, Γ'.F p → F p ∨ H p = none) ∧ (∀ p o, H p = some o → H' p = some o) := fun {Γ' σ' H' s'} a R => by
    refine ⟨fun p z => ?_, fun p o e => R.entry p o (by rw [a.e]; exact e)⟩
    have q := R.fnew p z
    rw [a.f0, a.e] at q
    exact q
  cases o with
  | nx s => exact fun Γ' σ' H' a R => h Γ'.F H' .non a.mono (nw a R).1 (nw a R).2 R.trk R.ws .non
  | rt r s =>
    intro Γ' σ' H' v a R rv
    obtain ⟨d, k⟩ := r
    have h : ∀ (F' : Addr → Prop) H' v, (∀ p, F p → F' p) → (∀ p, F' p → F p ∨ H p = none) → (∀ p o, H p = some o → H' p = some o) → (∀ p, F' p → H' p ≠ none) → s.w = [] →
      (if ownK s k then ∃ p, v = .ref p ∧ ¬ F' p ∧ H p = none ∧ Cell K F' H' p d else Rep K F' H' v d) → Q v H' := h
    refine h Γ'.F H' v a.mono (nw a R).1 (nw a R).2 R.trk R.ws ?_
    have own : Own K Γ' H' v d → ∃ p, v = .ref p ∧ ¬ Γ'.F p ∧ H p = none ∧ Cell K Γ'.F H' p d := fun ⟨p, e, h1, h2, h3⟩ => ⟨p, e, h1, by rw [a.e] at h2; exact h2, h3⟩
    cases k with
    | fro => exact iteF rv
    | fre => exact iteT (own rv.1)
    | bor i =>
      obtain ⟨h1, h2⟩ := rv
      cases q : s.ρ[i]? with
      | none =>
        rw [show ownK s (.bor i) = false by simp only [ownK, q]]
        rcases h2 with h2 | h2
        · rw [q] at h2; cases h2
        · exact iteF h2.1
      | some c =>
        cases c with
        | un =>
          rw [show ownK s (.bor i) = false by simp only [ownK, q]]
          rcases h2 with h2 | h2
          · rw [q] at h2; cases h2
          · exact iteF h2.1
        | fro d' =>
          rw [show ownK s (.bor i) = false by simp only [ownK, q]]
          rcases h2 with h2 | h2
          · rw [q] at h2; cases h2
          · exact iteF h2.1
        | own d' =>
          rw [show ownK s (.bor i) = true by simp only [ownK, q]]
          obtain ⟨v', g1, g2⟩ := R.own i d' q
          rw [h1] at g1; cases g1
          rcases h2 with h2 | ⟨_, p, rfl, h3⟩
          · rw [q] at h2; cases h2
            exact iteT (own g2)
          · obtain ⟨p', e, g3, _⟩ := g2
            cases e
            exact absurd h3 g3
  | bk s => exact h.elim
  | ct s => exact h.elim
  | exc k s => exact fun Γ' σ' H' a R => h Γ'.F H' a.mono (nw a R).1 (nw a R).2 R.trk R.ws
  | stuck => exact h.elim
theorem ps_len {f : FD} (h : f.ar ≤ f.N.length) : f.ps.length = f.ar := by
  unfold FD.ps
  rw [List.length_take]
  omega
theorem prog_ok (F : PFacts T sts exs gi ca K mg) : ∀ (n k : Nat) f st a fd, (k, st) ∈ sts → T[k]? = some f → Fun K f.name f.name st a fd → FnOk P w K mg base (L2.CX P w) n a fd f.ps (specF ca (run T n) f.ar k K) := by
  have arok : ∀ {k : Nat} {f : FD} {st : Stmt}, (k, st) ∈ sts → T[k]? = some f → f.ar ≤ f.N.length := fun {k f st} h1 h2 => by
    have q := F.chk k f st h1 h2
    simp only [chkDef, Bool.and_eq_true, decide_eq_true_eq] at q
    exact q.1.2
  intro n
  induction n with
  | zero =>
    intro k f st a fd h1 h2 hF
    refine ⟨fun vs H Q E h => ?_, fun A outer s H args us vs Q E _ _ _ _ h => ?_⟩
    · obtain ⟨_, _, _, _, _, h⟩ := h
      exact h.elim
    · obtain ⟨_, _, _, _, _, h⟩ := h
      exact h.elim
  | succ n ih =>
    intro k f st a fd h1 h2 hF
    have q := F.chk k f st h1 h2
    have har := arok h1 h2
    simp only [chkDef, Bool.and_eq_true, decide_eq_true_eq] at q
    obtain ⟨⟨q1, _⟩, q3⟩ := q
    have S := C8.fnScope_by q1
    refine hF.okX S (fun vs H Q E h => by rw [ps_len har]; exact h.1) fun cdv A outer s H vs Q E hr h => ?_
    obtain ⟨hl, Fr, ds, ht, rl, h⟩ := h
    have hX : XOkS exs (f.ctx (fnsOf T sts) gi st) (run T n) n ca (cxOf (L2.CX P w) P w K mg base f.N f.name (defScope st) a cdv A outer s H E) (fun cls d _ H => E cls d H) := by
      refine ⟨⟨rfl, S.nd, rfl, rfl, takes_of rfl rfl rfl rfl, hr, fun k' x ar' e => ?_, F.gints, F.blt⟩, fun _ => rfl, S.kind, passes_of rfl, fun k' x e => ?_⟩
      · obtain ⟨⟨k1, st'⟩, m, e⟩ := List.mem_filterMap.mp e
        cases z : T[k1]? with
        | none => simp [z] at e
        | some f' =>
          simp only [z, Option.map_some, Option.some.injEq, Prod.mk.injEq] at e
          obtain ⟨rfl, rfl, rfl⟩ := e
          obtain ⟨a', fd', g1, g2, g3⟩ := F.fns k1 f' st' m z
          exact ⟨a', fd', f'.ps, ps_len (arok m z), g2, g1.kp, .all g3, ih k1 f' st' a' fd' m z g1⟩
      · obtain ⟨bmB, B, newId, initId, g1, g2, g3, g4, g5, g6⟩ := F.excs k' x e
        exact ⟨bmB, B, newId, initId, g1, g2, g3, g4, raises_own g5 g6⟩
    obtain ⟨t, pt, it⟩ := (snd_Ss f.body _ _ _ _ hX q3).ex
    refine ⟨t, pt, it ⟨Fr, Fr, H⟩ _ H ⟨DL.start f.N ds, []⟩ _ (rs_start ht rl) (ws_finish ?_)⟩
    have e : run T (n + 1) k ds [] = finish (execB (run T n) f.body ⟨DL.start f.N ds, []⟩) := by
      simp only [run, h2]
      rw [if_pos (by rw [← rl.length]; exact hl)]
    rw [e] at h
    exact h
/-- the law's end -/
theorem spec_law {n k : Nat} {H : Hp} {a : Addr} {ns : List Int} (h : run T n k [.scr ns] [] = .ok (.bl true) false []) (hS : SqL K H a (ns.map V.int)) : specF ca (run T n) 1 k K [.ref a] H (fun v _ => v = .bl true) fun _ _ _ => False := by
  refine ⟨rfl, ?_⟩
  suffices fin : ∃ F : Addr → Prop, (∀ p, F p → H p ≠ none) ∧ Rep K F H (.ref a) (.scr ns) by
    obtain ⟨F, ht, r⟩ := fin
    refine ⟨F, [.scr ns], ht, .cons r .nil, ?_⟩
    rw [h]
    intro F' H' v _ _ _ _ _ z
    have z : Rep K F' H' v (.bl true) := z
    cases z
    rfl
  rcases hS with hS | hS
  · refine ⟨fun p => p = a, fun p e => ?_, .scr rfl hS⟩
    subst e
    rcases hS with e | ⟨o, e⟩ <;> rw [e] <;> simp
  · exact ⟨fun _ => False, fun p z => z.elim, .scrK hS⟩
end
end DL

/-! DL17: from a text's head to its law's end. -/
namespace DL
open PySem L2
/-- a def stands in the module under its name -/
structure DefIn (K : PySem.W.Frag) (x : Str) (st : Stmt) : Prop where
  ex : ∃ (f : Addr) (oc : Value) (od : Option Addr) (kV doc pm : Value) (an : Option Addr) (cdv ct : Value) (osl : Array (Option Value)),
    PySem.W.nsIn K mainGlobals x = some (some (.ref f)) ∧ K.lookup f = some ⟨oc, od, .func (PySem.W.fnOf x x (defArgs st) (defBody st) (defScope st) .none kV doc pm an cdv ct), osl⟩ ∧ PySem.W.codeIn K cdv x = true ∧ PySem.W.keepIn K (.ref f) = true
theorem defIn {K : PySem.W.Frag} {x : Str} {st : Stmt} {f : Addr} {oc : Value} {od : Option Addr} {kV doc pm : Value} {an : Option Addr} {cdv ct : Value} {osl : Array (Option Value)} (a : PySem.W.nsIn K mainGlobals x = some (some (.ref f)))
    (l : K.lookup f = some ⟨oc, od, .func (PySem.W.fnOf x x (defArgs st) (defBody st) (defScope st) .none kV doc pm an cdv ct), osl⟩) (c : PySem.W.codeIn K cdv x = true) (k : PySem.W.keepIn K (.ref f) = true) : DefIn K x st := ⟨f, oc, od, kV, doc, pm, an, cdv, ct, osl, a, l, c, k⟩
/-- a class of errors of one's own, without an __init__ -/
structure ExcIn (K : PySem.W.Frag) (x : Str) (C : Addr) : Prop where
  a : PySem.W.nsIn K mainGlobals x = some (some (.ref C))
  e : PySem.W.excIn K C [PySem.Value.type "ValueError", PySem.Value.type "Exception", PySem.Value.type "BaseException", PySem.Value.type "object"] "ValueError.__new__" = true
  k : PySem.W.keepIn K (.ref C) = true
  s : PySem.W.subIn K (.ref C) (.type "BaseException") = some true
  t : PySem.W.typeIn K (.ref C) = some (.type "type")
def AllD {α : Type} (P : α → Prop) : List α → Prop
  | [] => True
  | p :: r => P p ∧ AllD P r
theorem AllD.mem {α : Type} {P : α → Prop} : ∀ {l : List α}, AllD P l → ∀ p ∈ l, P p
  | _ :: _, h, p, m => by
    rcases List.mem_cons.mp m with e | m
    · subst e; exact h.1
    · exact AllD.mem h.2 p m
/-- what is known of one def -/
def DefOk (T : List FD) (fns : List (Nat × Str × Nat)) (exs : List (Nat × Str)) (gi : List (Str × Int)) (K : PySem.W.Frag) (mg : Str → Option Value) (p : Nat × Stmt) : Prop :=
  ∀ f, T[p.1]? = some f → chkDef fns exs gi f p.2 = true ∧ ∃ (a : Addr) (fd : FuncData), Fun K f.name f.name p.2 a fd ∧ mg f.name = some (.ref a) ∧ ∀ us : List Value, us.length = f.ps.length → bindArgs fd ⟨us, []⟩ = pure (f.ps.zip us)
/-- what is known of a def's text alone -/
structure DefTxt (T : List FD) (fns : List (Nat × Str × Nat)) (exs : List (Nat × Str)) (gi : List (Str × Int)) (k : Nat) (x : Str) (st : Stmt) : Prop where
  t : ∃ f, T[k]? = some f ∧ f.name = x ∧ chkDef fns exs gi f st = true ∧ ∀ (kV doc pm : Value) (an : Option Addr) (cdv ct : Value) (us : List Value), us.length = f.ps.length → bindArgs (PySem.W.fnOf x x (defArgs st) (defBody st) (defScope st) .none kV doc pm an cdv ct) ⟨us, []⟩ = pure (f.ps.zip us)
section
variable {T : List FD} {fns : List (Nat × Str × Nat)} {exs : List (Nat × Str)} {gi : List (Str × Int)} {K : PySem.W.Frag} {mg : Str → Option Value} {h : Heap} {k : Nat} {x : Str} {st : Stmt}
theorem defOk (X : K.In h) (G : h.Ns mainGlobals mg) (t : DefTxt T fns exs gi k x st) (D : DefIn K x st) : DefOk T fns exs gi K mg (k, st) := by
  intro f e
  obtain ⟨f', e', hn, hc, hb⟩ := t.t
  rw [e'] at e; cases e
  subst hn
  obtain ⟨a, oc, od, kV, doc, pm, an, cdv, ct, osl, g1, g2, g3, g4⟩ := D.ex
  exact ⟨hc, a, _, fun_mk g2 g3 g4, PySem.W.mg_of X G g1, hb kV doc pm an cdv ct⟩
/-- the whole text -/
theorem pfacts {ds : Defs} {ca : CA} (X : K.In h) (G : h.Ns mainGlobals mg) (hf : fnsOf T ds = fns) (d : AllD (DefOk T fns exs gi K mg) ds) (g : AllD (fun p : Str × Int => ∃ t, PySem.W.nsIn K mainGlobals p.1 = some (some (.int p.2 t))) gi)
    (b : AllD (fun x : Str => PySem.W.nsIn K mainGlobals x = some none) bltNames) (e : AllD (fun p : Nat × Str => ExcIn K p.2 (ca p.1)) exs) : PFacts T ds exs gi ca K mg where
  chk := fun k f st m e => by rw [hf]; exact (d.mem _ m f e).1
  fns := fun k f st m e => (d.mem _ m f e).2
  gints := fun x i m => by
    obtain ⟨t, q⟩ := g.mem _ m
    exact ⟨t, PySem.W.mg_of X G q⟩
  blt := fun x m => PySem.W.mg_none_of X G (b.mem x m)
  excs := fun k x q => by
    have E := e.mem (k, x) q
    exact ⟨_, _, _, _, PySem.F.excBase_ValueError, E.e, PySem.W.mg_of X G E.a, E.k, E.s, E.t⟩
end
open PySem.W in
/-- a law's end -/
theorem the_end {T : List FD} {ds : Defs} {exs : List (Nat × Str)} {gi : List (Str × Int)} {kL : Nat} {stL : Stmt} {fL : FD} {n : Nat} {l : PySem.W.OpenLaw} {q : Program} {loose : List Str} {XP : (Str → Option Value) → Heap → Prop} {YP : World → Heap → Prop} {d : DefRec} {K : Params → PySem.W.Frag}
    (hT : T[kL]? = some fL) (hm : (kL, stL) ∈ ds) (hnm : fL.name = d.name) (har : fL.ar = 1) {x : Str} (hps : fL.ps = [x]) (hr : Room n callerA) (hmost : l.most = some 63) (hdf : d.params.defaults = [])
    (hY : ∀ (w : World) (h : Heap), YP w h → (K w.params).In h) (hrun : ∀ ns : List Int, ns.length ≤ 63 → run T n kL [.scr ns] [] = .ok (.bl true) false [])
    (F : ∀ (w : World) (mg : Str → Option Value) (h : Heap), (K w.params).In h → h.Ns mainGlobals mg → ∃ ca, PFacts T ds exs gi ca (K w.params) mg) : PySem.W.WalkO q loose XP YP l.row.toRowW d [] (fun f vs => PySem.call f vs) := by
  refine L2.walk_of (n := 63) (k := n) (x := x) (CX := fun w => L2.CX l.prog w) (sp := fun w vs H Q E => ∀ ca, specF ca (run T n) 1 kL (K w.params) vs H Q E) hmost (by decide) hdf hr hY (fun w mg fa h KX G hfa => ?_) (fun w H a ns hl _ hS ca => spec_law (hrun ns hl) hS) fun w H s e s' z => ?_
  · obtain ⟨ca, P⟩ := F w mg h KX G
    obtain ⟨a, fd, g1, g2, g3⟩ := P.fns kL fL stL hm hT
    rw [hnm, hfa] at g2
    cases g2
    refine ⟨fd, fun s u => ?_, fun base _ _ => ?_⟩
    · have q := g3 [u] (by rw [hps]; rfl)
      rw [hps] at q
      exact .of_eq q
    · have q := prog_ok (P := l.prog) (w := w) (base := base) P n kL fL stL _ _ hm hT g1
      rw [hps, har] at q
      exact q.imp fun vs H Q E z => z ca
  · obtain ⟨_, _, _, _, _, _, _, _, _, _, _, _, z⟩ := z
    exact z.elim
end DL

/-! DLT: the defs as deep terms (printed by gen.py). -/
namespace DL
abbrev kf_l_number : Nat := 0
abbrev kf_l_behind : Nat := 1
abbrev kf_l_cell : Nat := 2
abbrev kf_l_pick : Nat := 3
abbrev kf_l_deed : Nat := 4
abbrev kf_l_terms : Nat := 5
abbrev kf_l_found : Nat := 6
abbrev kf_l_whole : Nat := 7
abbrev kf_l_is_term : Nat := 8
abbrev kf_l_is_rule : Nat := 9
abbrev kf_p_is_whole : Nat := 10
abbrev kf_p_is_term_in : Nat := 11
abbrev kf_p_is_term : Nat := 12
abbrev kf_p_is_rule : Nat := 13
abbrev kf_p_look_rule : Nat := 14
abbrev kf_p_look_many : Nat := 15
abbrev kf_p_place_of : Nat := 16
abbrev kf_p_number_of : Nat := 17
abbrev kf_p_next_number : Nat := 18
abbrev kf_p_row_of : Nat := 19
abbrev kf_p_numbers : Nat := 20
abbrev kf_p_number_at : Nat := 21
abbrev kf_p_looks : Nat := 22
abbrev kf_p_living : Nat := 23
abbrev kf_p_steps : Nat := 24
abbrev kf_p_how_often : Nat := 25
abbrev kf_p_records : Nat := 26
abbrev kf_p_runs : Nat := 27
abbrev kf_p_own_counts : Nat := 28
abbrev kf_p_halves : Nat := 29
abbrev kf_l_lists : Nat := 30
abbrev kf_l_often : Nat := 31
abbrev kf_l_one_term : Nat := 32
abbrev kf_l_row : Nat := 33
abbrev kf_l_parts : Nat := 34
abbrev kf_l_places : Nat := 35
abbrev kf_l_put : Nat := 36
abbrev kf_l_round : Nat := 37
abbrev kf_l_term : Nat := 38
abbrev kf_l_rule_0276 : Nat := 39
abbrev kf_l_rule_bd0c : Nat := 40
abbrev kf_l_spoilt_2772 : Nat := 41
abbrev kf_l_spoilt_8d70 : Nat := 42
abbrev kf_l_spoilt_thing : Nat := 43
abbrev kf_p_alike_from : Nat := 44
abbrev kf_p_comes_round : Nat := 45
abbrev kf_p_digit : Nat := 46
abbrev kf_p_end_of : Nat := 47
abbrev kf_p_first_fall : Nat := 48
abbrev kf_p_totals : Nat := 49
abbrev kf_p_first_over : Nat := 50
abbrev kf_p_is_row : Nat := 51
abbrev kf_p_goes_on : Nat := 52
abbrev kf_p_look_place : Nat := 53
abbrev kf_p_root_of : Nat := 54
abbrev kf_p_golden_at : Nat := 55
abbrev kf_p_greatest : Nat := 56
abbrev kf_p_is_slow : Nat := 57
abbrev kf_p_ones_of : Nat := 58
abbrev kf_p_last_slow : Nat := 59
abbrev kf_p_look_row : Nat := 60
abbrev kf_p_lowest : Nat := 61
abbrev kf_p_more_for : Nat := 62
abbrev kf_p_named : Nat := 63
abbrev kf_p_never_falls : Nat := 64
abbrev kf_p_never_looked : Nat := 65
abbrev kf_p_number_in : Nat := 66
abbrev kf_p_parting : Nat := 67
abbrev kf_p_parts_of : Nat := 68
abbrev kf_p_ratio : Nat := 69
abbrev kf_p_roots_of : Nat := 70
abbrev kf_p_shifted_alike : Nat := 71
abbrev kf_p_slow_at : Nat := 72
abbrev kf_p_slow_often : Nat := 73
abbrev kf_p_steepest : Nat := 74
abbrev kf_p_sum_between : Nat := 75
abbrev kf_p_term_in : Nat := 76
abbrev kf_p_term_text : Nat := 77
abbrev kf_p_with_first : Nat := 78
abbrev kf_p_unfolded : Nat := 79
abbrev kf_p_way_back : Nat := 80
abbrev kf_p_why_ends : Nat := 81
abbrev kf_law_k41 : Nat := 82
abbrev kf_law_k42 : Nat := 83
abbrev kf_law_k43 : Nat := 84
abbrev kf_law_k57 : Nat := 85
abbrev kf_law_k58 : Nat := 86
abbrev kf_law_k61 : Nat := 87
abbrev kf_law_k62 : Nat := 88
abbrev kf_law_k63 : Nat := 89
abbrev kf_law_k65 : Nat := 90
abbrev kf_law_k67 : Nat := 91
abbrev kf_law_k73 : Nat := 92
/-- _law_number: 0 _law_term_here, 1 _law_book, 2 _law_here, 3 _law_place, 4 _law_inner -/
def fd_l_number : FD := { name := "_law_number", ar := 3, N := ["_law_term_here", "_law_book", "_law_here", "_law_place", "_law_inner"], body :=
  (.cons (.ite (.cmp .eq (.ix (.var 0) (.int 0)) (.str "at")) (.cons (.asg 3 (.bin .sub (.var 2) (.ix (.var 0) (.int 1))))
  (.cons (.ret (.tup (.cons (.meth .get (.var 1) (.cons (.var 3) .nil)) (.cons (.var 3) .nil))))
  .nil)) .nil)
  (.cons (.asg 4 (.ix (.call kf_l_number (.cons (.ix (.var 0) (.neg (.int 1))) (.cons (.var 1) (.cons (.var 2) .nil)))) (.int 0)))
  (.cons (.ite (.isN false (.var 4)) (.cons (.ret (.tup (.cons (.non) (.cons (.non) .nil))))
  .nil) .nil)
  (.cons (.ite (.cmp .eq (.ix (.var 0) (.int 0)) (.str "rest")) (.cons (.ret (.tup (.cons (.bin .sub (.bin .sub (.var 2) (.ix (.var 0) (.int 1))) (.var 4)) (.cons (.bin .sub (.bin .sub (.var 2) (.ix (.var 0) (.int 1))) (.var 4)) .nil))))
  .nil) .nil)
  (.cons (.asg 3 (.ife (.cmp .eq (.ix (.var 0) (.int 0)) (.str "of")) (.var 4) (.bin .sub (.bin .sub (.var 2) (.ix (.var 0) (.int 1))) (.var 4))))
  (.cons (.ret (.tup (.cons (.meth .get (.var 1) (.cons (.var 3) .nil)) (.cons (.var 3) .nil))))
  .nil)))))) }
/-- _law_behind: 0 _law_rule_here, 1 _law_row_here, 2 _law_deed_here, 3 _law_book, 4 _law_place, 5 _law_some, 6 _law_term_here -/
def fd_l_behind : FD := { name := "_law_behind", ar := 3, N := ["_law_rule_here", "_law_row_here", "_law_deed_here", "_law_book", "_law_place", "_law_some", "_law_term_here"], body :=
  (.cons (.ite (.cmp .eq (.ix (.var 2) (.int 0)) (.str "poke")) (.cons (.ret (.tup (.cons (.bin .add (.slice (.var 1) .none (.some (.neg (.int 1)))) (.lst (.cons (.ix (.var 2) (.int 1)) .nil))) (.cons (.ix (.var 1) (.neg (.int 1))) .nil))))
  .nil) .nil)
  (.cons (.asg 3 (.dic0))
  (.cons (.for (.nm 4) (.rng2 (.int 1) (.bin .add (.bi .len (.cons (.var 1) .nil)) (.int 1))) (.cons (.setix 3 (.var 4) (.ix (.var 1) (.bin .sub (.var 4) (.int 1))))
  .nil))
  (.cons (.asg 5 (.lc (.seq (.ix (.var 0) (.int 2))) (.nm 6) [("_law_term_here", 6)] .none (.ix (.call kf_l_number (.cons (.var 6) (.cons (.var 3) (.cons (.bin .add (.bi .len (.cons (.var 1) .nil)) (.int 1)) .nil)))) (.int 0))))
  (.cons (.ite (.cmp .isin (.non) (.var 5)) (.cons (.ret (.tup (.cons (.var 1) (.cons (.str "ended") .nil))))
  .nil) .nil)
  (.cons (.ret (.tup (.cons (.bin .add (.var 1) (.lst (.cons (.bin .add (.ix (.var 0) (.int 1)) (.bi .sum (.cons (.var 5) .nil))) .nil))) (.cons (.bin .add (.ix (.var 0) (.int 1)) (.bi .sum (.cons (.var 5) .nil))) .nil))))
  .nil)))))) }
/-- _law_cell: 0 _law_script, 1 _law_k -/
def fd_l_cell : FD := { name := "_law_cell", ar := 2, N := ["_law_script", "_law_k"], body :=
  (.cons (.ite (.cmp .lt (.var 1) (.bi .len (.cons (.var 0) .nil))) (.cons (.ret (.ix (.var 0) (.var 1)))
  .nil) .nil)
  (.cons (.ite (.cmp .eq (.var 0) (.lst .nil)) (.cons (.ret (.int 0))
  .nil) .nil)
  (.cons (.ret (.bin .add (.bin .mul (.ix (.var 0) (.bin .md (.var 1) (.bi .len (.cons (.var 0) .nil)))) (.int 31)) (.var 1)))
  .nil))) }
/-- _law_pick: 0 _law_script, 1 _law_k, 2 _law_many, 3 _law_drawn -/
def fd_l_pick : FD := { name := "_law_pick", ar := 3, N := ["_law_script", "_law_k", "_law_many", "_law_drawn"], body :=
  (.cons (.asg 3 (.bin .md (.bin .mul (.bin .add (.call kf_l_cell (.cons (.var 0) (.cons (.var 1) .nil))) (.bin .mul (.int 6151) (.bin .add (.var 1) (.int 1)))) (.int 40692)) (.int 2147483399)))
  (.cons (.ret (.bin .md (.bin .md (.bin .add (.bin .mul (.var 3) (.var 3)) (.bin .fdiv (.var 3) (.int 31))) (.int 2147483629)) (.var 2)))
  .nil)) }
/-- _law_deed: 0 _law_script, 1 _law_at, 2 _law_way -/
def fd_l_deed : FD := { name := "_law_deed", ar := 2, N := ["_law_script", "_law_at", "_law_way"], body :=
  (.cons (.asg 2 (.ix (.lst (.cons (.str "go") (.cons (.str "go") (.cons (.str "go") (.cons (.str "poke") .nil))))) (.call kf_l_pick (.cons (.var 0) (.cons (.var 1) (.cons (.int 4) .nil))))))
  (.cons (.ret (.tup (.cons (.var 2) (.cons (.bin .sub (.call kf_l_pick (.cons (.var 0) (.cons (.bin .add (.var 1) (.int 1)) (.cons (.int 9) .nil)))) (.int 2)) .nil))))
  .nil)) }
/-- _law_terms: 0 _law_ats, 1 _law_k, 2 _law_made, 3 _law_term_here -/
def fd_l_terms : FD := { name := "_law_terms", ar := 0, N := ["_law_ats", "_law_k", "_law_made", "_law_term_here"], body :=
  (.cons (.asg 0 (.lc (.rng2 (.int 1) (.int 6)) (.nm 1) [("_law_k", 1)] .none (.tup (.cons (.str "at") (.cons (.var 1) .nil)))))
  (.cons (.asg 2 (.lst .nil))
  (.cons (.for (.nm 1) (.rng1 (.int 6)) (.cons (.extend 2 (.lc (.seq (.var 0)) (.nm 3) [("_law_term_here", 3)] .none (.tup (.cons (.str "back") (.cons (.var 1) (.cons (.var 3) .nil))))))
  .nil))
  (.cons (.extend 2 (.lc (.seq (.var 0)) (.nm 3) [("_law_term_here", 3)] .none (.tup (.cons (.str "of") (.cons (.var 3) .nil)))))
  (.cons (.for (.nm 1) (.rng1 (.int 6)) (.cons (.extend 2 (.lc (.seq (.var 0)) (.nm 3) [("_law_term_here", 3)] .none (.tup (.cons (.str "rest") (.cons (.var 1) (.cons (.var 3) .nil))))))
  .nil))
  (.cons (.ret (.bin .add (.var 0) (.var 2)))
  .nil)))))) }
/-- _law_found: 0 _law_row_here, 1 _law_many, 2 _law_made, 3 _law_one, 4 _law_term_here, 5 _law_book, 6 _law_puts, 7 _law_place, 8 _law_number_here -/
def fd_l_found : FD := { name := "_law_found", ar := 2, N := ["_law_row_here", "_law_many", "_law_made", "_law_one", "_law_term_here", "_law_book", "_law_puts", "_law_place", "_law_number_here"], body :=
  (.cons (.asg 2 (.lst .nil))
  (.cons (.ite (.cmp .ne (.lc (.seq (.slice (.var 0) .none (.some (.var 1)))) (.nm 3) [("_law_one", 3)] (.some (.not (.chain .le .le (.int 0) (.var 3) (.int 9)))) (.var 3)) (.lst .nil)) (.cons (.ret (.lst .nil))
  .nil) .nil)
  (.cons (.for (.nm 4) (.seq (.call kf_l_terms .nil)) (.cons (.par [5, 6] (.cons (.dic0) (.cons (.lst .nil) .nil)))
  (.cons (.for (.nm 7) (.rng2 (.int 1) (.bin .add (.bi .len (.cons (.var 0) .nil)) (.int 1))) (.cons (.ite (.cmp .gt (.var 7) (.var 1)) (.cons (.asg 8 (.ix (.call kf_l_number (.cons (.var 4) (.cons (.var 5) (.cons (.var 7) .nil)))) (.int 0)))
  (.cons (.append 6 (.ife (.isN false (.var 8)) (.non) (.bin .sub (.ix (.var 0) (.bin .sub (.var 7) (.int 1))) (.var 8))))
  .nil)) .nil)
  (.cons (.setix 5 (.var 7) (.ix (.var 0) (.bin .sub (.var 7) (.int 1))))
  .nil)))
  (.cons (.ite (.and (.cons (.cmp .notin (.non) (.var 6)) (.cons (.cmp .eq (.setf true (.var 6)) (.int 1)) (.cons (.chain .le .le (.int 0) (.ix (.var 6) (.int 0)) (.int 9)) .nil)))) (.cons (.append 2 (.tup (.cons (.bi .tuple (.cons (.slice (.var 0) .none (.some (.var 1))) .nil)) (.cons (.ix (.var 6) (.int 0)) (.cons (.tup (.cons (.var 4) .nil)) .nil)))))
  .nil) .nil)
  .nil))))
  (.cons (.ret (.var 2))
  .nil)))) }
/-- _law_whole: 0 _law_thing, 1 _law_low, 2 _law_high -/
def fd_l_whole : FD := { name := "_law_whole", ar := 3, N := ["_law_thing", "_law_low", "_law_high"], body :=
  (.cons (.ret (.and (.cons (.isi (.var 0) .int) (.cons (.not (.isi (.var 0) .bool)) (.cons (.chain .le .le (.var 1) (.var 0) (.var 2)) .nil)))))
  .nil) }
/-- _law_is_term: 0 _law_thing, 1 _law_deep -/
def fd_l_is_term : FD := { name := "_law_is_term", ar := 2, N := ["_law_thing", "_law_deep"], body :=
  (.cons (.ite (.or (.cons (.cmp .lt (.var 1) (.int 1)) (.cons (.not (.isi (.var 0) .tuple)) (.cons (.cmp .lt (.bi .len (.cons (.var 0) .nil)) (.int 2)) (.cons (.not (.isi (.ix (.var 0) (.int 0)) .str)) .nil))))) (.cons (.ret (.bl false))
  .nil) .nil)
  (.cons (.ite (.cmp .eq (.ix (.var 0) (.int 0)) (.str "at")) (.cons (.ret (.and (.cons (.cmp .eq (.bi .len (.cons (.var 0) .nil)) (.int 2)) (.cons (.call kf_l_whole (.cons (.ix (.var 0) (.int 1)) (.cons (.int 1) (.cons (.int 5) .nil)))) .nil))))
  .nil) .nil)
  (.cons (.ite (.cmp .eq (.ix (.var 0) (.int 0)) (.str "of")) (.cons (.ret (.and (.cons (.cmp .eq (.bi .len (.cons (.var 0) .nil)) (.int 2)) (.cons (.call kf_l_is_term (.cons (.ix (.var 0) (.int 1)) (.cons (.bin .sub (.var 1) (.int 1)) .nil))) .nil))))
  .nil) .nil)
  (.cons (.ite (.or (.cons (.cmp .notin (.ix (.var 0) (.int 0)) (.tup (.cons (.str "back") (.cons (.str "rest") .nil)))) (.cons (.cmp .ne (.bi .len (.cons (.var 0) .nil)) (.int 3)) .nil))) (.cons (.ret (.bl false))
  .nil) .nil)
  (.cons (.ret (.and (.cons (.call kf_l_whole (.cons (.ix (.var 0) (.int 1)) (.cons (.int 0) (.cons (.int 5) .nil)))) (.cons (.call kf_l_is_term (.cons (.ix (.var 0) (.int 2)) (.cons (.bin .sub (.var 1) (.int 1)) .nil))) .nil))))
  .nil))))) }
/-- _law_is_rule: 0 _law_thing, 1 _law_one, 2 _law_term_here -/
def fd_l_is_rule : FD := { name := "_law_is_rule", ar := 1, N := ["_law_thing", "_law_one", "_law_term_here"], body :=
  (.cons (.ite (.or (.cons (.not (.isi (.var 0) .tuple)) (.cons (.cmp .ne (.bi .len (.cons (.var 0) .nil)) (.int 3)) (.cons (.not (.isi (.ix (.var 0) (.int 0)) .tuple)) .nil)))) (.cons (.ret (.bl false))
  .nil) .nil)
  (.cons (.ite (.or (.cons (.not (.chain .le .le (.int 1) (.bi .len (.cons (.ix (.var 0) (.int 0)) .nil)) (.int 6))) (.cons (.cmp .ne (.lc (.seq (.ix (.var 0) (.int 0))) (.nm 1) [("_law_one", 1)] (.some (.not (.call kf_l_whole (.cons (.var 1) (.cons (.int 0) (.cons (.int 9) .nil)))))) (.var 1)) (.lst .nil)) .nil))) (.cons (.ret (.bl false))
  .nil) .nil)
  (.cons (.ite (.or (.cons (.not (.call kf_l_whole (.cons (.ix (.var 0) (.int 1)) (.cons (.int 0) (.cons (.int 9) .nil))))) (.cons (.not (.isi (.ix (.var 0) (.int 2)) .tuple)) (.cons (.not (.chain .le .le (.int 1) (.bi .len (.cons (.ix (.var 0) (.int 2)) .nil)) (.int 3))) .nil)))) (.cons (.ret (.bl false))
  .nil) .nil)
  (.cons (.ret (.cmp .eq (.lc (.seq (.ix (.var 0) (.int 2))) (.nm 2) [("_law_term_here", 2)] (.some (.not (.call kf_l_is_term (.cons (.var 2) (.cons (.int 3) .nil))))) (.var 2)) (.lst .nil)))
  .nil)))) }
/-- is_whole: 0 thing, 1 low, 2 high -/
def fd_p_is_whole : FD := { name := "is_whole", ar := 3, N := ["thing", "low", "high"], body :=
  (.cons (.ret (.and (.cons (.isi (.var 0) .int) (.cons (.not (.isi (.var 0) .bool)) (.cons (.chain .le .le (.var 1) (.var 0) (.var 2)) .nil)))))
  .nil) }
/-- is_term_in: 0 thing, 1 deep -/
def fd_p_is_term_in : FD := { name := "is_term_in", ar := 2, N := ["thing", "deep"], body :=
  (.cons (.ite (.or (.cons (.cmp .eq (.var 1) (.int 0)) (.cons (.not (.isi (.var 0) .tuple)) (.cons (.cmp .lt (.bi .len (.cons (.var 0) .nil)) (.int 2)) (.cons (.not (.isi (.ix (.var 0) (.int 0)) .str)) .nil))))) (.cons (.ret (.bl false))
  .nil) .nil)
  (.cons (.ite (.cmp .eq (.ix (.var 0) (.int 0)) (.str "at")) (.cons (.ret (.and (.cons (.cmp .eq (.bi .len (.cons (.var 0) .nil)) (.int 2)) (.cons (.call kf_p_is_whole (.cons (.ix (.var 0) (.int 1)) (.cons (.int 1) (.cons (.glob "FARTHEST" 5) .nil)))) .nil))))
  .nil) .nil)
  (.cons (.ite (.cmp .eq (.ix (.var 0) (.int 0)) (.str "of")) (.cons (.ret (.and (.cons (.cmp .eq (.bi .len (.cons (.var 0) .nil)) (.int 2)) (.cons (.call kf_p_is_term_in (.cons (.ix (.var 0) (.int 1)) (.cons (.bin .sub (.var 1) (.int 1)) .nil))) .nil))))
  .nil) .nil)
  (.cons (.ite (.or (.cons (.cmp .notin (.ix (.var 0) (.int 0)) (.tup (.cons (.str "back") (.cons (.str "rest") .nil)))) (.cons (.cmp .ne (.bi .len (.cons (.var 0) .nil)) (.int 3)) (.cons (.not (.call kf_p_is_whole (.cons (.ix (.var 0) (.int 1)) (.cons (.int 0) (.cons (.glob "FARTHEST" 5) .nil))))) .nil)))) (.cons (.ret (.bl false))
  .nil) .nil)
  (.cons (.ret (.call kf_p_is_term_in (.cons (.ix (.var 0) (.int 2)) (.cons (.bin .sub (.var 1) (.int 1)) .nil))))
  .nil))))) }
/-- is_term: 0 thing -/
def fd_p_is_term : FD := { name := "is_term", ar := 1, N := ["thing"], body :=
  (.cons (.ret (.call kf_p_is_term_in (.cons (.var 0) (.cons (.glob "DEEPEST" 3) .nil))))
  .nil) }
/-- is_rule: 0 thing, 1 one, 2 term -/
def fd_p_is_rule : FD := { name := "is_rule", ar := 1, N := ["thing", "one", "term"], body :=
  (.cons (.ite (.or (.cons (.not (.isi (.var 0) .tuple)) (.cons (.cmp .ne (.bi .len (.cons (.var 0) .nil)) (.int 3)) .nil))) (.cons (.ret (.bl false))
  .nil) .nil)
  (.cons (.ite (.or (.cons (.not (.isi (.ix (.var 0) (.int 0)) .tuple)) (.cons (.not (.isi (.ix (.var 0) (.int 2)) .tuple)) .nil))) (.cons (.ret (.bl false))
  .nil) .nil)
  (.cons (.ite (.or (.cons (.not (.chain .le .le (.int 1) (.bi .len (.cons (.ix (.var 0) (.int 0)) .nil)) (.glob "MOST_FIRST" 6))) (.cons (.not (.bi .all (.cons (.lc (.seq (.ix (.var 0) (.int 0))) (.nm 1) [("one", 1)] .none (.call kf_p_is_whole (.cons (.var 1) (.cons (.int 0) (.cons (.glob "GREATEST" 9) .nil))))) .nil))) .nil))) (.cons (.ret (.bl false))
  .nil) .nil)
  (.cons (.ite (.or (.cons (.not (.call kf_p_is_whole (.cons (.ix (.var 0) (.int 1)) (.cons (.int 0) (.cons (.glob "GREATEST" 9) .nil))))) (.cons (.not (.chain .le .le (.int 1) (.bi .len (.cons (.ix (.var 0) (.int 2)) .nil)) (.glob "MOST_TERMS" 3))) .nil))) (.cons (.ret (.bl false))
  .nil) .nil)
  (.cons (.ret (.bi .all (.cons (.lc (.seq (.ix (.var 0) (.int 2))) (.nm 2) [("term", 2)] .none (.call kf_p_is_term (.cons (.var 2) .nil))) .nil)))
  .nil))))) }
/-- look_rule: 0 rule -/
def fd_p_look_rule : FD := { name := "look_rule", ar := 1, N := ["rule"], body :=
  (.cons (.ite (.not (.call kf_p_is_rule (.cons (.var 0) .nil))) (.cons (.raise 0)
  .nil) .nil)
  .nil) }
/-- look_many: 0 many -/
def fd_p_look_many : FD := { name := "look_many", ar := 1, N := ["many"], body :=
  (.cons (.ite (.not (.call kf_p_is_whole (.cons (.var 0) (.cons (.int 1) (.cons (.glob "LONGEST" 200) .nil))))) (.cons (.raise 1)
  .nil) .nil)
  .nil) }
/-- place_of: 0 term, 1 row, 2 here, 3 inner -/
def fd_p_place_of : FD := { name := "place_of", ar := 2, N := ["term", "row", "here", "inner"], body :=
  (.cons (.asg 2 (.bin .add (.bi .len (.cons (.var 1) .nil)) (.int 1)))
  (.cons (.ite (.cmp .eq (.ix (.var 0) (.int 0)) (.str "at")) (.cons (.ret (.bin .sub (.var 2) (.ix (.var 0) (.int 1))))
  .nil) .nil)
  (.cons (.asg 3 (.call kf_p_number_of (.cons (.ix (.var 0) (.neg (.int 1))) (.cons (.var 1) .nil))))
  (.cons (.ite (.isN false (.var 3)) (.cons (.ret (.non))
  .nil) .nil)
  (.cons (.ret (.ife (.cmp .eq (.ix (.var 0) (.int 0)) (.str "of")) (.var 3) (.bin .sub (.bin .sub (.var 2) (.ix (.var 0) (.int 1))) (.var 3))))
  .nil))))) }
/-- number_of: 0 term, 1 row, 2 place -/
def fd_p_number_of : FD := { name := "number_of", ar := 2, N := ["term", "row", "place"], body :=
  (.cons (.asg 2 (.call kf_p_place_of (.cons (.var 0) (.cons (.var 1) .nil))))
  (.cons (.ite (.or (.cons (.isN false (.var 2)) (.cons (.cmp .eq (.ix (.var 0) (.int 0)) (.str "rest")) .nil))) (.cons (.ret (.var 2))
  .nil) .nil)
  (.cons (.ret (.ife (.chain .le .le (.int 1) (.var 2) (.bi .len (.cons (.var 1) .nil))) (.ix (.var 1) (.bin .sub (.var 2) (.int 1))) (.non)))
  .nil))) }
/-- next_number: 0 rule, 1 row, 2 some, 3 term -/
def fd_p_next_number : FD := { name := "next_number", ar := 2, N := ["rule", "row", "some", "term"], body :=
  (.cons (.asg 2 (.lc (.seq (.ix (.var 0) (.int 2))) (.nm 3) [("term", 3)] .none (.call kf_p_number_of (.cons (.var 3) (.cons (.var 1) .nil)))))
  (.cons (.ite (.cmp .isin (.non) (.var 2)) (.cons (.ret (.non))
  .nil) .nil)
  (.cons (.ret (.bin .add (.ix (.var 0) (.int 1)) (.bi .sum (.cons (.var 2) .nil))))
  .nil))) }
/-- row_of: 0 rule, 1 many, 2 made, 3 here -/
def fd_p_row_of : FD := { name := "row_of", ar := 2, N := ["rule", "many", "made", "here"], body :=
  (.cons (.asg 2 (.bi .list (.cons (.slice (.ix (.var 0) (.int 0)) .none (.some (.var 1))) .nil)))
  (.cons (.while (.cmp .lt (.bi .len (.cons (.var 2) .nil)) (.var 1)) (.cons (.asg 3 (.call kf_p_next_number (.cons (.var 0) (.cons (.var 2) .nil))))
  (.cons (.ite (.isN false (.var 3)) (.cons (.ret (.var 2))
  .nil) .nil)
  (.cons (.append 2 (.var 3))
  .nil))))
  (.cons (.ret (.var 2))
  .nil))) }
/-- numbers: 0 rule, 1 many -/
def fd_p_numbers : FD := { name := "numbers", ar := 2, N := ["rule", "many"], body :=
  (.cons (.expr (.call kf_p_look_rule (.cons (.var 0) .nil)))
  (.cons (.expr (.call kf_p_look_many (.cons (.var 1) .nil)))
  (.cons (.ret (.call kf_p_row_of (.cons (.var 0) (.cons (.var 1) .nil))))
  .nil))) }
/-- number_at: 0 rule, 1 place, 2 made -/
def fd_p_number_at : FD := { name := "number_at", ar := 2, N := ["rule", "place", "made"], body :=
  (.cons (.expr (.call kf_p_look_rule (.cons (.var 0) .nil)))
  (.cons (.expr (.call kf_p_look_many (.cons (.var 1) .nil)))
  (.cons (.asg 2 (.call kf_p_row_of (.cons (.var 0) (.cons (.var 1) .nil))))
  (.cons (.ite (.cmp .lt (.bi .len (.cons (.var 2) .nil)) (.var 1)) (.cons (.raise 2)
  .nil) .nil)
  (.cons (.ret (.ix (.var 2) (.bin .sub (.var 1) (.int 1))))
  .nil))))) }
/-- looks: 0 rule, 1 place, 2 made, 3 term -/
def fd_p_looks : FD := { name := "looks", ar := 2, N := ["rule", "place", "made", "term"], body :=
  (.cons (.expr (.call kf_p_number_at (.cons (.var 0) (.cons (.var 1) .nil))))
  (.cons (.ite (.cmp .le (.var 1) (.bi .len (.cons (.ix (.var 0) (.int 0)) .nil))) (.cons (.ret (.lst .nil))
  .nil) .nil)
  (.cons (.asg 2 (.call kf_p_row_of (.cons (.var 0) (.cons (.bin .sub (.var 1) (.int 1)) .nil))))
  (.cons (.ret (.lc (.seq (.ix (.var 0) (.int 2))) (.nm 3) [("term", 3)] .none (.call kf_p_place_of (.cons (.var 3) (.cons (.var 2) .nil)))))
  .nil)))) }
/-- living: 0 terms, 1 more, 2 many, 3 term, 4 made, 5 first, 6 rule -/
def fd_p_living : FD := { name := "living", ar := 3, N := ["terms", "more", "many", "term", "made", "first", "rule"], body :=
  (.cons (.expr (.call kf_p_look_many (.cons (.var 2) .nil)))
  (.cons (.ite (.or (.cons (.not (.isi (.var 0) .tuple)) (.cons (.not (.bi .all (.cons (.lc (.seq (.var 0)) (.nm 3) [("term", 3)] .none (.call kf_p_is_term (.cons (.var 3) .nil))) .nil))) .nil))) (.cons (.raise 0)
  .nil) .nil)
  (.cons (.asg 4 (.lst .nil))
  (.cons (.for (.nm 5) (.rng2 (.int 1) (.bin .add (.glob "MOST_FIRST" 6) (.int 1))) (.cons (.asg 6 (.tup (.cons (.bin .mul (.tup (.cons (.int 1) .nil)) (.var 5)) (.cons (.var 1) (.cons (.var 0) .nil)))))
  (.cons (.expr (.call kf_p_look_rule (.cons (.var 6) .nil)))
  (.cons (.ite (.cmp .eq (.bi .len (.cons (.call kf_p_row_of (.cons (.var 6) (.cons (.var 2) .nil))) .nil)) (.var 2)) (.cons (.append 4 (.var 5))
  .nil) .nil)
  .nil))))
  (.cons (.ret (.var 4))
  .nil))))) }
/-- steps: 0 rule, 1 many, 2 made, 3 one, 4 later -/
def fd_p_steps : FD := { name := "steps", ar := 2, N := ["rule", "many", "made", "one", "later"], body :=
  (.cons (.asg 2 (.call kf_p_numbers (.cons (.var 0) (.cons (.var 1) .nil))))
  (.cons (.ret (.lc (.zip (.var 2) (.slice (.var 2) (.some (.int 1)) .none)) (.tp [3, 4]) [("one", 3), ("later", 4)] .none (.bin .sub (.var 4) (.var 3))))
  .nil)) }
/-- how_often: 0 rule, 1 many, 2 made, 3 one -/
def fd_p_how_often : FD := { name := "how_often", ar := 2, N := ["rule", "many", "made", "one"], body :=
  (.cons (.asg 2 (.dic0))
  (.cons (.for (.nm 3) (.seq (.call kf_p_numbers (.cons (.var 0) (.cons (.var 1) .nil)))) (.cons (.setix 2 (.var 3) (.bin .add (.meth .get (.var 2) (.cons (.var 3) (.cons (.int 0) .nil))) (.int 1)))
  .nil))
  (.cons (.ret (.srtI (.var 2)))
  .nil))) }
/-- records: 0 rule, 1 many, 2 made, 3 best, 4 place, 5 one -/
def fd_p_records : FD := { name := "records", ar := 2, N := ["rule", "many", "made", "best", "place", "one"], body :=
  (.cons (.asg 2 (.lst .nil))
  (.cons (.asg 3 (.non))
  (.cons (.for (.tp [4, 5]) (.enum (.call kf_p_numbers (.cons (.var 0) (.cons (.var 1) .nil)))) (.cons (.ite (.or (.cons (.isN false (.var 3)) (.cons (.cmp .gt (.var 5) (.var 3)) .nil))) (.cons (.append 2 (.bin .add (.var 4) (.int 1)))
  (.cons (.asg 3 (.var 5))
  .nil)) .nil)
  .nil))
  (.cons (.ret (.var 2))
  .nil)))) }
/-- runs: 0 rule, 1 many, 2 made, 3 one -/
def fd_p_runs : FD := { name := "runs", ar := 2, N := ["rule", "many", "made", "one"], body :=
  (.cons (.asg 2 (.lst .nil))
  (.cons (.for (.nm 3) (.seq (.call kf_p_numbers (.cons (.var 0) (.cons (.var 1) .nil)))) (.cons (.ite (.and (.cons (.cmp .ne (.var 2) (.lst .nil)) (.cons (.cmp .eq (.ix (.ix (.var 2) (.neg (.int 1))) (.int 0)) (.var 3)) .nil))) (.cons (.setix 2 (.neg (.int 1)) (.tup (.cons (.var 3) (.cons (.bin .add (.ix (.ix (.var 2) (.neg (.int 1))) (.int 1)) (.int 1)) .nil))))
  .nil) (.cons (.append 2 (.tup (.cons (.var 3) (.cons (.int 1) .nil))))
  .nil))
  .nil))
  (.cons (.ret (.var 2))
  .nil))) }
/-- own_counts: 0 many, 1 made, 2 number -/
def fd_p_own_counts : FD := { name := "own_counts", ar := 1, N := ["many", "made", "number"], body :=
  (.cons (.ite (.not (.call kf_p_is_whole (.cons (.var 0) (.cons (.int 1) (.cons (.int 1000) .nil))))) (.cons (.raise 1)
  .nil) .nil)
  (.cons (.asg 1 (.lst (.cons (.int 1) (.cons (.int 2) (.cons (.int 2) .nil)))))
  (.cons (.asg 2 (.int 3))
  (.cons (.while (.cmp .lt (.bi .len (.cons (.var 1) .nil)) (.var 0)) (.cons (.extend 1 (.bin .mul (.lst (.cons (.var 2) .nil)) (.ix (.var 1) (.bin .sub (.var 2) (.int 1)))))
  (.cons (.asg 2 (.bin .add (.var 2) (.int 1)))
  .nil)))
  (.cons (.ret (.slice (.var 1) .none (.some (.var 0))))
  .nil))))) }
/-- halves: 0 many, 1 made, 2 again -/
def fd_p_halves : FD := { name := "halves", ar := 1, N := ["many", "made", "again"], body :=
  (.cons (.ite (.not (.call kf_p_is_whole (.cons (.var 0) (.cons (.int 1) (.cons (.int 20) .nil))))) (.cons (.raise 1)
  .nil) .nil)
  (.cons (.asg 1 (.lst (.cons (.int 1) .nil)))
  (.cons (.for (.nm 2) (.rng1 (.bin .sub (.var 0) (.int 1))) (.cons (.append 1 (.ife (.cmp .gt (.var 2) (.int 0)) (.bin .mul (.ix (.var 1) (.neg (.int 1))) (.int 2)) (.int 1)))
  .nil))
  (.cons (.ret (.var 1))
  .nil)))) }
/-- _law_lists: 0 _law_rule_here, 1 _law_many, 2 _law_made -/
def fd_l_lists : FD := { name := "_law_lists", ar := 2, N := ["_law_rule_here", "_law_many", "_law_made"], body :=
  (.cons (.asg 2 (.lst (.cons (.call kf_p_numbers (.cons (.var 0) (.cons (.var 1) .nil))) (.cons (.call kf_p_steps (.cons (.var 0) (.cons (.var 1) .nil))) (.cons (.call kf_p_how_often (.cons (.var 0) (.cons (.var 1) .nil))) (.cons (.call kf_p_records (.cons (.var 0) (.cons (.var 1) .nil))) (.cons (.call kf_p_runs (.cons (.var 0) (.cons (.var 1) .nil))) .nil)))))))
  (.cons (.ret (.bin .add (.var 2) (.lst (.cons (.call kf_p_looks (.cons (.var 0) (.cons (.int 1) .nil))) (.cons (.call kf_p_living (.cons (.ix (.var 0) (.int 2)) (.cons (.int 0) (.cons (.int 9) .nil)))) (.cons (.call kf_p_own_counts (.cons (.var 1) .nil)) (.cons (.call kf_p_halves (.cons (.int 3) .nil)) .nil)))))))
  .nil)) }
/-- _law_often: 0 _law_number, 1 _law_many -/
def fd_l_often : FD := { name := "_law_often", ar := 1, N := ["_law_number", "_law_many"], body :=
  (.cons (.asg 1 (.bin .add (.int 1) (.bi .int (.cons (.cmp .eq (.var 0) (.int 1)) .nil))))
  (.cons (.while (.cmp .eq (.bin .md (.var 0) (.int 2)) (.int 0)) (.cons (.asg 0 (.bin .fdiv (.var 0) (.int 2)))
  (.cons (.asg 1 (.bin .add (.var 1) (.int 1)))
  .nil)))
  (.cons (.ret (.var 1))
  .nil))) }
/-- _law_one_term: 0 _law_script, 1 _law_at, 2 _law_first, 3 _law_k, 4 _law_some -/
def fd_l_one_term : FD := { name := "_law_one_term", ar := 2, N := ["_law_script", "_law_at", "_law_first", "_law_k", "_law_some"], body :=
  (.cons (.asg 2 (.bi .tuple (.cons (.lc (.rng1 (.bin .add (.int 1) (.call kf_l_pick (.cons (.var 0) (.cons (.var 1) (.cons (.int 4) .nil)))))) (.nm 3) [("_law_k", 3)] .none (.bin .add (.int 1) (.call kf_l_pick (.cons (.var 0) (.cons (.bin .add (.bin .add (.var 1) (.int 1)) (.var 3)) (.cons (.int 3) .nil)))))) .nil)))
  (.cons (.asg 4 (.call kf_l_terms .nil))
  (.cons (.ret (.tup (.cons (.var 2) (.cons (.bin .fdiv (.call kf_l_pick (.cons (.var 0) (.cons (.bin .add (.var 1) (.int 8)) (.cons (.int 4) .nil)))) (.int 2)) (.cons (.tup (.cons (.ix (.var 4) (.call kf_l_pick (.cons (.var 0) (.cons (.bin .add (.var 1) (.int 9)) (.cons (.bi .len (.cons (.var 4) .nil)) .nil))))) .nil)) .nil)))))
  .nil))) }
/-- _law_row: 0 _law_rule_here, 1 _law_many, 2 _law_book, 3 _law_place, 4 _law_some, 5 _law_term_here -/
def fd_l_row : FD := { name := "_law_row", ar := 2, N := ["_law_rule_here", "_law_many", "_law_book", "_law_place", "_law_some", "_law_term_here"], body :=
  (.cons (.asg 2 (.dic0))
  (.cons (.for (.nm 3) (.rng2 (.int 1) (.bin .add (.var 1) (.int 1))) (.cons (.ite (.cmp .le (.var 3) (.bi .len (.cons (.ix (.var 0) (.int 0)) .nil))) (.cons (.setix 2 (.var 3) (.ix (.ix (.var 0) (.int 0)) (.bin .sub (.var 3) (.int 1))))
  .nil) (.cons (.asg 4 (.lc (.seq (.ix (.var 0) (.int 2))) (.nm 5) [("_law_term_here", 5)] .none (.ix (.call kf_l_number (.cons (.var 5) (.cons (.var 2) (.cons (.var 3) .nil)))) (.int 0))))
  (.cons (.ite (.cmp .isin (.non) (.var 4)) (.cons (.brk)
  .nil) .nil)
  (.cons (.setix 2 (.var 3) (.bin .add (.ix (.var 0) (.int 1)) (.bi .sum (.cons (.var 4) .nil))))
  .nil))))
  .nil))
  (.cons (.ret (.lc (.seq (.bi .sorted (.cons (.var 2) .nil))) (.nm 3) [("_law_place", 3)] .none (.ix (.var 2) (.var 3))))
  .nil))) }
/-- _law_parts: 0 _law_rule_here, 1 _law_many, 2 _law_row_here, 3 _law_made, 4 _law_book, 5 _law_place, 6 _law_k, 7 _law_some, 8 _law_often, 9 _law_rest, 10 _law_term_here, 11 _law_number_here, 12 _law_spot, 13 _law_other, 14 _law_one, 15 _law_more -/
def fd_l_parts : FD := { name := "_law_parts", ar := 2, N := ["_law_rule_here", "_law_many", "_law_row_here", "_law_made", "_law_book", "_law_place", "_law_k", "_law_some", "_law_often", "_law_rest", "_law_term_here", "_law_number_here", "_law_spot", "_law_other", "_law_one", "_law_more"], body :=
  (.cons (.par [2, 3] (.cons (.call kf_l_row (.cons (.var 0) (.cons (.var 1) .nil))) (.cons (.lst .nil) .nil)))
  (.cons (.asg 4 (.dic0))
  (.cons (.for (.nm 5) (.rng2 (.int 1) (.bin .add (.bi .len (.cons (.var 2) .nil)) (.int 1))) (.cons (.ite (.cmp .le (.var 5) (.bi .len (.cons (.ix (.var 0) (.int 0)) .nil))) (.cons (.append 3 (.tup (.cons (.lc (.rng1 (.bi .len (.cons (.ix (.var 0) (.int 0)) .nil))) (.nm 6) [("_law_k", 6)] .none (.bi .int (.cons (.cmp .eq (.bin .sub (.var 5) (.int 1)) (.var 6)) .nil))) (.cons (.int 0) (.cons (.int 0) .nil)))))
  .nil) (.cons (.par [7, 8, 9] (.cons (.bin .mul (.lst (.cons (.int 0) .nil)) (.bi .len (.cons (.ix (.var 0) (.int 0)) .nil))) (.cons (.int 1) (.cons (.int 0) .nil))))
  (.cons (.for (.nm 10) (.seq (.ix (.var 0) (.int 2))) (.cons (.asgT [11, 12] (.call kf_l_number (.cons (.var 10) (.cons (.var 4) (.cons (.var 5) .nil)))))
  (.cons (.ite (.cmp .eq (.ix (.var 10) (.int 0)) (.str "rest")) (.cons (.asg 9 (.bin .add (.var 9) (.var 11)))
  .nil) (.cons (.asg 13 (.ix (.var 3) (.bin .sub (.var 12) (.int 1))))
  (.cons (.asg 7 (.lc (.zip (.var 7) (.ix (.var 13) (.int 0))) (.tp [14, 15]) [("_law_one", 14), ("_law_more", 15)] .none (.bin .add (.var 14) (.var 15))))
  (.cons (.asg 8 (.bin .add (.var 8) (.ix (.var 13) (.int 1))))
  (.cons (.asg 9 (.bin .add (.var 9) (.ix (.var 13) (.int 2))))
  .nil)))))
  .nil)))
  (.cons (.append 3 (.tup (.cons (.var 7) (.cons (.var 8) (.cons (.var 9) .nil)))))
  .nil))))
  (.cons (.setix 4 (.var 5) (.ix (.var 2) (.bin .sub (.var 5) (.int 1))))
  .nil)))
  (.cons (.ret (.var 3))
  .nil)))) }
/-- _law_places: 0 _law_thing, 1 _law_made, 2 _law_k, 3 _law_place -/
def fd_l_places : FD := { name := "_law_places", ar := 1, N := ["_law_thing", "_law_made", "_law_k", "_law_place"], body :=
  (.cons (.asg 1 (.lst (.cons (.tup .nil) .nil)))
  (.cons (.ite (.isi (.var 0) .tuple) (.cons (.for (.nm 2) (.rng1 (.bi .len (.cons (.var 0) .nil))) (.cons (.extend 1 (.lc (.seq (.call kf_l_places (.cons (.ix (.var 0) (.var 2)) .nil))) (.nm 3) [("_law_place", 3)] .none (.bin .add (.tup (.cons (.var 2) .nil)) (.var 3))))
  .nil))
  .nil) .nil)
  (.cons (.ret (.var 1))
  .nil))) }
/-- _law_put: 0 _law_thing, 1 _law_place, 2 _law_new, 3 _law_k -/
def fd_l_put : FD := { name := "_law_put", ar := 3, N := ["_law_thing", "_law_place", "_law_new", "_law_k"], body :=
  (.cons (.ite (.cmp .eq (.var 1) (.tup .nil)) (.cons (.ret (.var 2))
  .nil) .nil)
  (.cons (.asg 3 (.ix (.var 1) (.int 0)))
  (.cons (.ret (.bin .add (.bin .add (.slice (.var 0) .none (.some (.var 3))) (.tup (.cons (.call kf_l_put (.cons (.ix (.var 0) (.var 3)) (.cons (.slice (.var 1) (.some (.int 1)) .none) (.cons (.var 2) .nil)))) .nil))) (.slice (.var 0) (.some (.bin .add (.var 3) (.int 1))) .none)))
  .nil))) }
/-- _law_round: 0 _law_row_here, 1 _law_long, 2 _law_unlike, 3 _law_k, 4 _law_start -/
def fd_l_round : FD := { name := "_law_round", ar := 1, N := ["_law_row_here", "_law_long", "_law_unlike", "_law_k", "_law_start"], body :=
  (.cons (.for (.nm 1) (.rng2 (.int 1) (.bin .add (.bin .fdiv (.bi .len (.cons (.var 0) .nil)) (.int 2)) (.int 1))) (.cons (.asg 2 (.lc (.rng1 (.bin .sub (.bi .len (.cons (.var 0) .nil)) (.var 1))) (.nm 3) [("_law_k", 3)] (.some (.cmp .ne (.ix (.var 0) (.var 3)) (.ix (.var 0) (.bin .add (.var 3) (.var 1))))) (.var 3)))
  (.cons (.asg 4 (.ife (.cmp .ne (.var 2) (.lst .nil)) (.bin .add (.ix (.var 2) (.neg (.int 1))) (.int 1)) (.int 0)))
  (.cons (.ite (.cmp .ge (.bin .sub (.bi .len (.cons (.var 0) .nil)) (.var 4)) (.bin .mul (.int 2) (.var 1))) (.cons (.ret (.tup (.cons (.bin .add (.var 4) (.int 1)) (.cons (.var 1) .nil))))
  .nil) .nil)
  .nil))))
  (.cons (.ret (.non))
  .nil)) }
/-- _law_term: 0 _law_script, 1 _law_at, 2 _law_deep, 3 _law_way, 4 _law_inner -/
def fd_l_term : FD := { name := "_law_term", ar := 3, N := ["_law_script", "_law_at", "_law_deep", "_law_way", "_law_inner"], body :=
  (.cons (.asg 3 (.call kf_l_pick (.cons (.var 0) (.cons (.var 1) (.cons (.int 7) .nil)))))
  (.cons (.ite (.or (.cons (.cmp .lt (.var 3) (.int 2)) (.cons (.cmp .eq (.var 2) (.int 1)) .nil))) (.cons (.ret (.tup (.cons (.str "at") (.cons (.bin .add (.int 1) (.call kf_l_pick (.cons (.var 0) (.cons (.bin .add (.var 1) (.int 1)) (.cons (.int 3) .nil))))) .nil))))
  .nil) .nil)
  (.cons (.asg 4 (.call kf_l_term (.cons (.var 0) (.cons (.bin .add (.var 1) (.int 3)) (.cons (.bin .sub (.var 2) (.int 1)) .nil)))))
  (.cons (.ite (.cmp .eq (.var 3) (.int 2)) (.cons (.ret (.tup (.cons (.str "of") (.cons (.var 4) .nil))))
  .nil) .nil)
  (.cons (.ret (.tup (.cons (.ife (.cmp .eq (.var 3) (.int 3)) (.str "rest") (.str "back")) (.cons (.call kf_l_pick (.cons (.var 0) (.cons (.bin .add (.var 1) (.int 2)) (.cons (.int 3) .nil)))) (.cons (.var 4) .nil)))))
  .nil))))) }
/-- _law_rule: 0 _law_script, 1 _law_at, 2 _law_way, 3 _law_first, 4 _law_k, 5 _law_some, 6 _law_here, 7 _law_terms_here -/
def fd_l_rule_0276 : FD := { name := "_law_rule", ar := 2, N := ["_law_script", "_law_at", "_law_way", "_law_first", "_law_k", "_law_some", "_law_here", "_law_terms_here"], body :=
  (.cons (.asg 2 (.call kf_l_pick (.cons (.var 0) (.cons (.var 1) (.cons (.int 8) .nil)))))
  (.cons (.asg 3 (.bi .tuple (.cons (.lc (.rng1 (.bin .add (.int 1) (.call kf_l_pick (.cons (.var 0) (.cons (.bin .add (.var 1) (.int 9)) (.cons (.int 4) .nil)))))) (.nm 4) [("_law_k", 4)] .none (.bin .add (.int 1) (.call kf_l_pick (.cons (.var 0) (.cons (.bin .add (.bin .add (.var 1) (.int 1)) (.var 4)) (.cons (.int 2) .nil)))))) .nil)))
  (.cons (.ite (.cmp .lt (.var 2) (.int 5)) (.cons (.asg 5 (.lst (.cons (.tup (.cons (.tup (.cons (.int 1) (.cons (.int 1) .nil))) (.cons (.int 0) (.cons (.tup (.cons (.tup (.cons (.str "back") (.cons (.int 0) (.cons (.tup (.cons (.str "at") (.cons (.int 1) .nil))) .nil)))) (.cons (.tup (.cons (.str "back") (.cons (.int 0) (.cons (.tup (.cons (.str "at") (.cons (.int 2) .nil))) .nil)))) .nil))) .nil)))) .nil)))
  (.cons (.append 5 (.tup (.cons (.tup (.cons (.int 1) (.cons (.int 1) .nil))) (.cons (.int 0) (.cons (.tup (.cons (.tup (.cons (.str "back") (.cons (.int 0) (.cons (.tup (.cons (.str "at") (.cons (.int 1) .nil))) .nil)))) (.cons (.tup (.cons (.str "back") (.cons (.int 1) (.cons (.tup (.cons (.str "at") (.cons (.int 2) .nil))) .nil)))) .nil))) .nil)))))
  (.cons (.append 5 (.tup (.cons (.tup (.cons (.int 1) (.cons (.int 1) .nil))) (.cons (.int 0) (.cons (.tup (.cons (.tup (.cons (.str "of") (.cons (.tup (.cons (.str "at") (.cons (.int 1) .nil))) .nil))) (.cons (.tup (.cons (.str "back") (.cons (.int 0) (.cons (.tup (.cons (.str "at") (.cons (.int 1) .nil))) .nil)))) .nil))) .nil)))))
  (.cons (.append 5 (.tup (.cons (.tup (.cons (.int 1) .nil)) (.cons (.int 0) (.cons (.tup (.cons (.tup (.cons (.str "rest") (.cons (.int 0) (.cons (.tup (.cons (.str "of") (.cons (.tup (.cons (.str "at") (.cons (.int 1) .nil))) .nil))) .nil)))) .nil)) .nil)))))
  (.cons (.append 5 (.tup (.cons (.tup (.cons (.int 1) .nil)) (.cons (.int 1) (.cons (.tup (.cons (.tup (.cons (.str "back") (.cons (.int 0) (.cons (.tup (.cons (.str "of") (.cons (.tup (.cons (.str "at") (.cons (.int 1) .nil))) .nil))) .nil)))) .nil)) .nil)))))
  (.cons (.asg 6 (.ix (.var 5) (.var 2)))
  (.cons (.ret (.ife (.cmp .gt (.call kf_l_pick (.cons (.var 0) (.cons (.bin .add (.var 1) (.int 10)) (.cons (.int 3) .nil)))) (.int 0)) (.var 6) (.tup (.cons (.var 3) (.cons (.ix (.var 6) (.int 1)) (.cons (.ix (.var 6) (.int 2)) .nil))))))
  .nil))))))) .nil)
  (.cons (.asg 7 (.lc (.rng1 (.bin .add (.int 1) (.call kf_l_pick (.cons (.var 0) (.cons (.bin .add (.var 1) (.int 8)) (.cons (.int 2) .nil)))))) (.nm 4) [("_law_k", 4)] .none (.call kf_l_term (.cons (.var 0) (.cons (.bin .add (.bin .add (.var 1) (.int 11)) (.bin .mul (.int 10) (.var 4))) (.cons (.int 3) .nil))))))
  (.cons (.ret (.tup (.cons (.var 3) (.cons (.bin .fdiv (.call kf_l_pick (.cons (.var 0) (.cons (.bin .add (.var 1) (.int 7)) (.cons (.int 4) .nil)))) (.int 3)) (.cons (.bi .tuple (.cons (.var 7) .nil)) .nil)))))
  .nil))))) }
/-- _law_rule: 0 _law_script, 1 _law_at, 2 _law_way, 3 _law_first, 4 _law_k, 5 _law_some, 6 _law_here, 7 _law_terms -/
def fd_l_rule_bd0c : FD := { name := "_law_rule", ar := 2, N := ["_law_script", "_law_at", "_law_way", "_law_first", "_law_k", "_law_some", "_law_here", "_law_terms"], body :=
  (.cons (.asg 2 (.call kf_l_pick (.cons (.var 0) (.cons (.var 1) (.cons (.int 8) .nil)))))
  (.cons (.asg 3 (.bi .tuple (.cons (.lc (.rng1 (.bin .add (.int 1) (.call kf_l_pick (.cons (.var 0) (.cons (.bin .add (.var 1) (.int 9)) (.cons (.int 4) .nil)))))) (.nm 4) [("_law_k", 4)] .none (.bin .add (.int 1) (.call kf_l_pick (.cons (.var 0) (.cons (.bin .add (.bin .add (.var 1) (.int 1)) (.var 4)) (.cons (.int 2) .nil)))))) .nil)))
  (.cons (.ite (.cmp .lt (.var 2) (.int 5)) (.cons (.asg 5 (.lst (.cons (.tup (.cons (.tup (.cons (.int 1) (.cons (.int 1) .nil))) (.cons (.int 0) (.cons (.tup (.cons (.tup (.cons (.str "back") (.cons (.int 0) (.cons (.tup (.cons (.str "at") (.cons (.int 1) .nil))) .nil)))) (.cons (.tup (.cons (.str "back") (.cons (.int 0) (.cons (.tup (.cons (.str "at") (.cons (.int 2) .nil))) .nil)))) .nil))) .nil)))) .nil)))
  (.cons (.append 5 (.tup (.cons (.tup (.cons (.int 1) (.cons (.int 1) .nil))) (.cons (.int 0) (.cons (.tup (.cons (.tup (.cons (.str "back") (.cons (.int 0) (.cons (.tup (.cons (.str "at") (.cons (.int 1) .nil))) .nil)))) (.cons (.tup (.cons (.str "back") (.cons (.int 1) (.cons (.tup (.cons (.str "at") (.cons (.int 2) .nil))) .nil)))) .nil))) .nil)))))
  (.cons (.append 5 (.tup (.cons (.tup (.cons (.int 1) (.cons (.int 1) .nil))) (.cons (.int 0) (.cons (.tup (.cons (.tup (.cons (.str "of") (.cons (.tup (.cons (.str "at") (.cons (.int 1) .nil))) .nil))) (.cons (.tup (.cons (.str "back") (.cons (.int 0) (.cons (.tup (.cons (.str "at") (.cons (.int 1) .nil))) .nil)))) .nil))) .nil)))))
  (.cons (.append 5 (.tup (.cons (.tup (.cons (.int 1) .nil)) (.cons (.int 0) (.cons (.tup (.cons (.tup (.cons (.str "rest") (.cons (.int 0) (.cons (.tup (.cons (.str "of") (.cons (.tup (.cons (.str "at") (.cons (.int 1) .nil))) .nil))) .nil)))) .nil)) .nil)))))
  (.cons (.append 5 (.tup (.cons (.tup (.cons (.int 1) .nil)) (.cons (.int 1) (.cons (.tup (.cons (.tup (.cons (.str "back") (.cons (.int 0) (.cons (.tup (.cons (.str "of") (.cons (.tup (.cons (.str "at") (.cons (.int 1) .nil))) .nil))) .nil)))) .nil)) .nil)))))
  (.cons (.asg 6 (.ix (.var 5) (.var 2)))
  (.cons (.ret (.ife (.cmp .gt (.call kf_l_pick (.cons (.var 0) (.cons (.bin .add (.var 1) (.int 10)) (.cons (.int 3) .nil)))) (.int 0)) (.var 6) (.tup (.cons (.var 3) (.cons (.ix (.var 6) (.int 1)) (.cons (.ix (.var 6) (.int 2)) .nil))))))
  .nil))))))) .nil)
  (.cons (.asg 7 (.lc (.rng1 (.bin .add (.int 1) (.call kf_l_pick (.cons (.var 0) (.cons (.bin .add (.var 1) (.int 8)) (.cons (.int 2) .nil)))))) (.nm 4) [("_law_k", 4)] .none (.call kf_l_term (.cons (.var 0) (.cons (.bin .add (.bin .add (.var 1) (.int 11)) (.bin .mul (.int 10) (.var 4))) (.cons (.int 3) .nil))))))
  (.cons (.ret (.tup (.cons (.var 3) (.cons (.bin .fdiv (.call kf_l_pick (.cons (.var 0) (.cons (.bin .add (.var 1) (.int 7)) (.cons (.int 4) .nil)))) (.int 3)) (.cons (.bi .tuple (.cons (.var 7) .nil)) .nil)))))
  .nil))))) }
/-- _law_spoilt: 0 _law_text_here, 1 _law_cell_here, 2 _law_signs, 3 _law_at, 4 _law_sign, 5 _law_on, 6 _law_way -/
def fd_l_spoilt_2772 : FD := { name := "_law_spoilt", ar := 3, N := ["_law_text_here", "_law_cell_here", "_law_signs", "_law_at", "_law_sign", "_law_on", "_law_way"], body :=
  (.cons (.asg 3 (.bin .md (.var 1) (.bin .add (.bi .len (.cons (.var 0) .nil)) (.int 1))))
  (.cons (.asg 4 (.ix (.var 2) (.bin .md (.bin .fdiv (.var 1) (.int 1000)) (.bi .len (.cons (.var 2) .nil)))))
  (.cons (.asg 5 (.bin .add (.bin .add (.var 3) (.int 1)) (.bin .md (.bin .fdiv (.var 1) (.int 7)) (.int 9))))
  (.cons (.asg 6 (.bin .md (.bin .fdiv (.var 1) (.int 100000)) (.int 8)))
  (.cons (.ite (.cmp .lt (.var 6) (.int 2)) (.cons (.ret (.bin .add (.bin .add (.slice (.var 0) .none (.some (.var 3))) (.var 4)) (.slice (.var 0) (.some (.var 3)) .none)))
  .nil) .nil)
  (.cons (.ite (.cmp .eq (.var 6) (.int 2)) (.cons (.ret (.bin .add (.slice (.var 0) .none (.some (.var 3))) (.slice (.var 0) (.some (.bin .add (.var 3) (.int 1))) .none)))
  .nil) .nil)
  (.cons (.ite (.cmp .lt (.var 6) (.int 5)) (.cons (.ret (.bin .add (.bin .add (.slice (.var 0) .none (.some (.var 3))) (.var 4)) (.slice (.var 0) (.some (.bin .add (.var 3) (.int 1))) .none)))
  .nil) .nil)
  (.cons (.ite (.cmp .eq (.var 6) (.int 5)) (.cons (.ret (.bin .add (.slice (.var 0) .none (.some (.var 3))) (.slice (.var 0) (.some (.var 5)) .none)))
  .nil) .nil)
  (.cons (.ite (.cmp .eq (.var 6) (.int 6)) (.cons (.ret (.bin .add (.slice (.var 0) .none (.some (.var 5))) (.slice (.var 0) (.some (.var 3)) .none)))
  .nil) .nil)
  (.cons (.ret (.ix (.lst (.cons (.bin .add (.var 0) (.str " ")) (.cons (.bin .add (.str " ") (.var 0)) (.cons (.bin .add (.slice (.var 0) (.some (.var 3)) .none) (.slice (.var 0) .none (.some (.var 3)))) (.cons (.str "") (.cons (.bin .add (.var 0) (.var 0)) .nil)))))) (.bin .md (.var 1) (.int 5))))
  .nil)))))))))) }
/-- _law_spoilt: 0 _law_text, 1 _law_cell_here, 2 _law_signs, 3 _law_at, 4 _law_sign, 5 _law_on, 6 _law_way -/
def fd_l_spoilt_8d70 : FD := { name := "_law_spoilt", ar := 3, N := ["_law_text", "_law_cell_here", "_law_signs", "_law_at", "_law_sign", "_law_on", "_law_way"], body :=
  (.cons (.asg 3 (.bin .md (.var 1) (.bin .add (.bi .len (.cons (.var 0) .nil)) (.int 1))))
  (.cons (.asg 4 (.ix (.var 2) (.bin .md (.bin .fdiv (.var 1) (.int 1000)) (.bi .len (.cons (.var 2) .nil)))))
  (.cons (.asg 5 (.bin .add (.bin .add (.var 3) (.int 1)) (.bin .md (.bin .fdiv (.var 1) (.int 7)) (.int 9))))
  (.cons (.asg 6 (.bin .md (.bin .fdiv (.var 1) (.int 100000)) (.int 8)))
  (.cons (.ite (.cmp .lt (.var 6) (.int 2)) (.cons (.ret (.bin .add (.bin .add (.slice (.var 0) .none (.some (.var 3))) (.var 4)) (.slice (.var 0) (.some (.var 3)) .none)))
  .nil) .nil)
  (.cons (.ite (.cmp .eq (.var 6) (.int 2)) (.cons (.ret (.bin .add (.slice (.var 0) .none (.some (.var 3))) (.slice (.var 0) (.some (.bin .add (.var 3) (.int 1))) .none)))
  .nil) .nil)
  (.cons (.ite (.cmp .lt (.var 6) (.int 5)) (.cons (.ret (.bin .add (.bin .add (.slice (.var 0) .none (.some (.var 3))) (.var 4)) (.slice (.var 0) (.some (.bin .add (.var 3) (.int 1))) .none)))
  .nil) .nil)
  (.cons (.ite (.cmp .eq (.var 6) (.int 5)) (.cons (.ret (.bin .add (.slice (.var 0) .none (.some (.var 3))) (.slice (.var 0) (.some (.var 5)) .none)))
  .nil) .nil)
  (.cons (.ite (.cmp .eq (.var 6) (.int 6)) (.cons (.ret (.bin .add (.slice (.var 0) .none (.some (.var 5))) (.slice (.var 0) (.some (.var 3)) .none)))
  .nil) .nil)
  (.cons (.ret (.ix (.lst (.cons (.bin .add (.var 0) (.str " ")) (.cons (.bin .add (.str " ") (.var 0)) (.cons (.bin .add (.slice (.var 0) (.some (.var 3)) .none) (.slice (.var 0) .none (.some (.var 3)))) (.cons (.str "") (.cons (.bin .add (.var 0) (.var 0)) .nil)))))) (.bin .md (.var 1) (.int 5))))
  .nil)))))))))) }
/-- _law_spoilt_thing: 0 _law_script, 1 _law_at, 2 _law_thing, 3 _law_places_here, 4 _law_place, 5 _law_here, 6 _law_k, 7 _law_some, 8 _law_way -/
def fd_l_spoilt_thing : FD := { name := "_law_spoilt_thing", ar := 3, N := ["_law_script", "_law_at", "_law_thing", "_law_places_here", "_law_place", "_law_here", "_law_k", "_law_some", "_law_way"], body :=
  (.cons (.asg 3 (.call kf_l_places (.cons (.var 2) .nil)))
  (.cons (.asg 4 (.ix (.var 3) (.call kf_l_pick (.cons (.var 0) (.cons (.var 1) (.cons (.bi .len (.cons (.var 3) .nil)) .nil))))))
  (.cons (.asg 5 (.var 2))
  (.cons (.for (.nm 6) (.seq (.var 4)) (.cons (.asg 5 (.ix (.var 5) (.var 6)))
  .nil))
  (.cons (.asg 7 (.lst (.cons (.int 0) (.cons (.int 1) (.cons (.int 5) (.cons (.int 6) (.cons (.int 9) (.cons (.int 10) (.cons (.neg (.int 1)) (.cons (.bl true) (.cons (.non) (.cons (.str "at") (.cons (.tup (.cons (.str "at") (.cons (.int 1) .nil))) (.cons (.tup .nil) (.cons (.tup (.cons (.int 1) .nil)) (.cons (.tup (.cons (.str "at") (.cons (.int 0) .nil))) (.cons (.lst (.cons (.int 0) .nil)) (.cons (.tup (.cons (.var 5) .nil)) (.cons (.tup (.cons (.var 5) (.cons (.var 5) .nil))) .nil)))))))))))))))))))
  (.cons (.asg 8 (.call kf_l_pick (.cons (.var 0) (.cons (.bin .add (.var 1) (.int 1)) (.cons (.int 23) .nil)))))
  (.cons (.ite (.cmp .lt (.var 8) (.int 17)) (.cons (.ret (.call kf_l_put (.cons (.var 2) (.cons (.var 4) (.cons (.ix (.var 7) (.var 8)) .nil)))))
  .nil) .nil)
  (.cons (.ite (.and (.cons (.isi (.var 5) .tuple) (.cons (.cmp .ne (.var 5) (.tup .nil)) .nil))) (.cons (.asg 6 (.call kf_l_pick (.cons (.var 0) (.cons (.bin .add (.var 1) (.int 2)) (.cons (.bi .len (.cons (.var 5) .nil)) .nil)))))
  (.cons (.ret (.call kf_l_put (.cons (.var 2) (.cons (.var 4) (.cons (.ife (.cmp .lt (.var 8) (.int 20)) (.bin .add (.slice (.var 5) .none (.some (.var 6))) (.slice (.var 5) (.some (.bin .add (.var 6) (.int 1))) .none)) (.bin .add (.slice (.var 5) .none (.some (.bin .add (.var 6) (.int 1)))) (.slice (.var 5) (.some (.var 6)) .none))) .nil)))))
  .nil)) .nil)
  (.cons (.ret (.call kf_l_put (.cons (.var 2) (.cons (.var 4) (.cons (.ife (.isi (.var 5) .int) (.bin .sub (.int 0) (.var 5)) (.int 7)) .nil)))))
  .nil))))))))) }
/-- alike_from: 0 one, 1 other, 2 many, 3 mine, 4 yours, 5 place -/
def fd_p_alike_from : FD := { name := "alike_from", ar := 3, N := ["one", "other", "many", "mine", "yours", "place"], body :=
  (.cons (.expr (.call kf_p_look_rule (.cons (.var 0) .nil)))
  (.cons (.expr (.call kf_p_look_rule (.cons (.var 1) .nil)))
  (.cons (.expr (.call kf_p_look_many (.cons (.var 2) .nil)))
  (.cons (.par [3, 4] (.cons (.call kf_p_row_of (.cons (.var 0) (.cons (.var 2) .nil))) (.cons (.call kf_p_row_of (.cons (.var 1) (.cons (.var 2) .nil))) .nil)))
  (.cons (.ite (.or (.cons (.cmp .lt (.bi .len (.cons (.var 3) .nil)) (.var 2)) (.cons (.cmp .lt (.bi .len (.cons (.var 4) .nil)) (.var 2)) (.cons (.cmp .ne (.ix (.var 3) (.neg (.int 1))) (.ix (.var 4) (.neg (.int 1)))) .nil)))) (.cons (.ret (.non))
  .nil) .nil)
  (.cons (.asg 5 (.var 2))
  (.cons (.while (.and (.cons (.cmp .gt (.var 5) (.int 1)) (.cons (.cmp .eq (.ix (.var 3) (.bin .sub (.var 5) (.int 2))) (.ix (.var 4) (.bin .sub (.var 5) (.int 2)))) .nil))) (.cons (.asg 5 (.bin .sub (.var 5) (.int 1)))
  .nil))
  (.cons (.ret (.var 5))
  .nil)))))))) }
/-- comes_round: 0 rule, 1 many, 2 made, 3 long, 4 place -/
def fd_p_comes_round : FD := { name := "comes_round", ar := 2, N := ["rule", "many", "made", "long", "place"], body :=
  (.cons (.asg 2 (.call kf_p_numbers (.cons (.var 0) (.cons (.var 1) .nil))))
  (.cons (.for (.nm 3) (.rng2 (.int 1) (.bin .add (.bin .fdiv (.bi .len (.cons (.var 2) .nil)) (.int 2)) (.int 1))) (.cons (.asg 4 (.bin .sub (.bi .len (.cons (.var 2) .nil)) (.var 3)))
  (.cons (.while (.and (.cons (.cmp .gt (.var 4) (.int 0)) (.cons (.cmp .eq (.ix (.var 2) (.bin .sub (.var 4) (.int 1))) (.ix (.var 2) (.bin .add (.bin .sub (.var 4) (.int 1)) (.var 3)))) .nil))) (.cons (.asg 4 (.bin .sub (.var 4) (.int 1)))
  .nil))
  (.cons (.ite (.cmp .ge (.bin .sub (.bi .len (.cons (.var 2) .nil)) (.var 4)) (.bin .mul (.int 2) (.var 3))) (.cons (.ret (.tup (.cons (.bin .add (.var 4) (.int 1)) (.cons (.var 3) .nil))))
  .nil) .nil)
  .nil))))
  (.cons (.ret (.non))
  .nil))) }
/-- digit: 0 word -/
def fd_p_digit : FD := { name := "digit", ar := 1, N := ["word"], body :=
  (.cons (.ite (.or (.cons (.cmp .ne (.bi .len (.cons (.var 0) .nil)) (.int 1)) (.cons (.cmp .notin (.var 0) (.str "0123456789")) .nil))) (.cons (.raise 3)
  .nil) .nil)
  (.cons (.ret (.bi .int (.cons (.var 0) .nil)))
  .nil)) }
/-- end_of: 0 rule, 1 many, 2 made -/
def fd_p_end_of : FD := { name := "end_of", ar := 2, N := ["rule", "many", "made"], body :=
  (.cons (.asg 2 (.call kf_p_numbers (.cons (.var 0) (.cons (.var 1) .nil))))
  (.cons (.ret (.ife (.cmp .lt (.bi .len (.cons (.var 2) .nil)) (.var 1)) (.bi .len (.cons (.var 2) .nil)) (.non)))
  .nil)) }
/-- first_fall: 0 rule, 1 many, 2 some, 3 place, 4 one -/
def fd_p_first_fall : FD := { name := "first_fall", ar := 2, N := ["rule", "many", "some", "place", "one"], body :=
  (.cons (.asg 2 (.lc (.enum (.call kf_p_steps (.cons (.var 0) (.cons (.var 1) .nil)))) (.tp [3, 4]) [("place", 3), ("one", 4)] (.some (.cmp .lt (.var 4) (.int 0))) (.bin .add (.var 3) (.int 2))))
  (.cons (.ret (.ix (.bin .add (.var 2) (.lst (.cons (.non) .nil))) (.int 0)))
  .nil)) }
/-- totals: 0 rule, 1 many, 2 made, 3 one -/
def fd_p_totals : FD := { name := "totals", ar := 2, N := ["rule", "many", "made", "one"], body :=
  (.cons (.asg 2 (.lst .nil))
  (.cons (.for (.nm 3) (.seq (.call kf_p_numbers (.cons (.var 0) (.cons (.var 1) .nil)))) (.cons (.append 2 (.bin .add (.var 3) (.ife (.cmp .ne (.var 2) (.lst .nil)) (.ix (.var 2) (.neg (.int 1))) (.int 0))))
  .nil))
  (.cons (.ret (.var 2))
  .nil))) }
/-- first_over: 0 rule, 1 number, 2 many, 3 some, 4 place, 5 total -/
def fd_p_first_over : FD := { name := "first_over", ar := 3, N := ["rule", "number", "many", "some", "place", "total"], body :=
  (.cons (.asg 3 (.call kf_p_totals (.cons (.var 0) (.cons (.var 2) .nil))))
  (.cons (.ite (.or (.cons (.not (.isi (.var 1) .int)) (.cons (.isi (.var 1) .bool) .nil))) (.cons (.raise 1)
  .nil) .nil)
  (.cons (.for (.tp [4, 5]) (.enum (.var 3)) (.cons (.ite (.cmp .gt (.var 5) (.var 1)) (.cons (.ret (.bin .add (.var 4) (.int 1)))
  .nil) .nil)
  .nil))
  (.cons (.ret (.non))
  .nil)))) }
/-- is_row: 0 rule, 1 thing, 2 one -/
def fd_p_is_row : FD := { name := "is_row", ar := 2, N := ["rule", "thing", "one"], body :=
  (.cons (.expr (.call kf_p_look_rule (.cons (.var 0) .nil)))
  (.cons (.ite (.or (.cons (.not (.isi (.var 1) .list)) (.cons (.not (.chain .le .le (.int 1) (.bi .len (.cons (.var 1) .nil)) (.glob "LONGEST" 200))) .nil))) (.cons (.ret (.bl false))
  .nil) .nil)
  (.cons (.ite (.not (.bi .all (.cons (.lc (.seq (.var 1)) (.nm 2) [("one", 2)] .none (.and (.cons (.isi (.var 2) .int) (.cons (.not (.isi (.var 2) .bool)) .nil)))) .nil))) (.cons (.ret (.bl false))
  .nil) .nil)
  (.cons (.ret (.cmp .eq (.call kf_p_row_of (.cons (.var 0) (.cons (.bi .len (.cons (.var 1) .nil)) .nil))) (.var 1)))
  .nil)))) }
/-- goes_on: 0 rule, 1 row -/
def fd_p_goes_on : FD := { name := "goes_on", ar := 2, N := ["rule", "row"], body :=
  (.cons (.ite (.not (.call kf_p_is_row (.cons (.var 0) (.cons (.var 1) .nil)))) (.cons (.raise 2)
  .nil) .nil)
  (.cons (.ret (.or (.cons (.cmp .lt (.bi .len (.cons (.var 1) .nil)) (.bi .len (.cons (.ix (.var 0) (.int 0)) .nil))) (.cons (.isN true (.call kf_p_next_number (.cons (.var 0) (.cons (.var 1) .nil)))) .nil))))
  .nil)) }
/-- look_place: 0 place -/
def fd_p_look_place : FD := { name := "look_place", ar := 1, N := ["place"], body :=
  (.cons (.ite (.not (.call kf_p_is_whole (.cons (.var 0) (.cons (.int 1) (.cons (.glob "HIGHEST" 1000000000) .nil))))) (.cons (.raise 1)
  .nil) .nil)
  .nil) }
/-- root_of: 0 number, 1 low, 2 high, 3 middle -/
def fd_p_root_of : FD := { name := "root_of", ar := 1, N := ["number", "low", "high", "middle"], body :=
  (.cons (.par [1, 2] (.cons (.int 0) (.cons (.bin .add (.var 0) (.int 1)) .nil)))
  (.cons (.while (.cmp .gt (.bin .sub (.var 2) (.var 1)) (.int 1)) (.cons (.asg 3 (.bin .fdiv (.bin .add (.var 1) (.var 2)) (.int 2)))
  (.cons (.ite (.cmp .le (.bin .mul (.var 3) (.var 3)) (.var 0)) (.cons (.asg 1 (.var 3))
  .nil) (.cons (.asg 2 (.var 3))
  .nil))
  .nil)))
  (.cons (.ret (.var 1))
  .nil))) }
/-- golden_at: 0 place, 1 more -/
def fd_p_golden_at : FD := { name := "golden_at", ar := 1, N := ["place", "more"], body :=
  (.cons (.expr (.call kf_p_look_place (.cons (.var 0) .nil)))
  (.cons (.asg 1 (.bin .add (.var 0) (.int 1)))
  (.cons (.ret (.bin .fdiv (.bin .sub (.call kf_p_root_of (.cons (.bin .mul (.bin .mul (.int 5) (.var 1)) (.var 1)) .nil)) (.var 1)) (.int 2)))
  .nil))) }
/-- greatest: 0 rule, 1 many -/
def fd_p_greatest : FD := { name := "greatest", ar := 2, N := ["rule", "many"], body :=
  (.cons (.ret (.bi .max (.cons (.call kf_p_numbers (.cons (.var 0) (.cons (.var 1) .nil))) .nil)))
  .nil) }
/-- is_slow: 0 rule, 1 many, 2 one -/
def fd_p_is_slow : FD := { name := "is_slow", ar := 2, N := ["rule", "many", "one"], body :=
  (.cons (.ret (.bi .all (.cons (.lc (.seq (.call kf_p_steps (.cons (.var 0) (.cons (.var 1) .nil)))) (.nm 2) [("one", 2)] .none (.cmp .isin (.var 2) (.tup (.cons (.int 0) (.cons (.int 1) .nil))))) .nil)))
  .nil) }
/-- ones_of: 0 number, 1 made -/
def fd_p_ones_of : FD := { name := "ones_of", ar := 1, N := ["number", "made"], body :=
  (.cons (.asg 1 (.int 0))
  (.cons (.while (.cmp .gt (.var 0) (.int 0)) (.cons (.asg 1 (.bin .add (.var 1) (.bin .md (.var 0) (.int 2))))
  (.cons (.asg 0 (.bin .fdiv (.var 0) (.int 2)))
  .nil)))
  (.cons (.ret (.var 1))
  .nil))) }
/-- last_slow: 0 number -/
def fd_p_last_slow : FD := { name := "last_slow", ar := 1, N := ["number"], body :=
  (.cons (.ret (.bin .add (.bin .sub (.bin .mul (.int 2) (.var 0)) (.call kf_p_ones_of (.cons (.var 0) .nil))) (.int 1)))
  .nil) }
/-- look_row: 0 row, 1 one -/
def fd_p_look_row : FD := { name := "look_row", ar := 1, N := ["row", "one"], body :=
  (.cons (.ite (.or (.cons (.not (.isi (.var 0) .list)) (.cons (.not (.chain .le .le (.int 2) (.bi .len (.cons (.var 0) .nil)) (.glob "LONGEST" 200))) .nil))) (.cons (.raise 1)
  .nil) .nil)
  (.cons (.ite (.not (.bi .all (.cons (.lc (.seq (.var 0)) (.nm 1) [("one", 1)] .none (.and (.cons (.isi (.var 1) .int) (.cons (.not (.isi (.var 1) .bool)) .nil)))) .nil))) (.cons (.raise 1)
  .nil) .nil)
  .nil)) }
/-- lowest: 0 up, 1 down, 2 one, 3 other -/
def fd_p_lowest : FD := { name := "lowest", ar := 2, N := ["up", "down", "one", "other"], body :=
  (.cons (.par [2, 3] (.cons (.bi .abs (.cons (.var 0) .nil)) (.cons (.var 1) .nil)))
  (.cons (.while (.cmp .ne (.var 3) (.int 0)) (.cons (.par [2, 3] (.cons (.var 3) (.cons (.bin .md (.var 2) (.var 3)) .nil)))
  .nil))
  (.cons (.ret (.tup (.cons (.bin .fdiv (.var 0) (.var 2)) (.cons (.bin .fdiv (.var 1) (.var 2)) .nil))))
  .nil))) }
/-- more_for: 0 row, 1 many, 2 term, 3 found, 4 place, 5 here -/
def fd_p_more_for : FD := { name := "more_for", ar := 3, N := ["row", "many", "term", "found", "place", "here"], body :=
  (.cons (.asg 3 (.non))
  (.cons (.for (.nm 4) (.rng2 (.var 1) (.bi .len (.cons (.var 0) .nil))) (.cons (.asg 5 (.call kf_p_number_of (.cons (.var 2) (.cons (.slice (.var 0) .none (.some (.var 4))) .nil))))
  (.cons (.ite (.or (.cons (.isN false (.var 5)) (.cons (.and (.cons (.isN true (.var 3)) (.cons (.cmp .ne (.bin .sub (.ix (.var 0) (.var 4)) (.var 5)) (.var 3)) .nil))) .nil))) (.cons (.ret (.non))
  .nil) .nil)
  (.cons (.asg 3 (.bin .sub (.ix (.var 0) (.var 4)) (.var 5)))
  .nil))))
  (.cons (.ret (.ife (.call kf_p_is_whole (.cons (.var 3) (.cons (.int 0) (.cons (.glob "GREATEST" 9) .nil)))) (.var 3) (.non)))
  .nil))) }
/-- named: 0 word -/
def fd_p_named : FD := { name := "named", ar := 1, N := ["word"], body :=
  (.cons (.ite (.cmp .eq (.var 0) (.str "both back")) (.cons (.ret (.tup (.cons (.tup (.cons (.int 1) (.cons (.int 1) .nil))) (.cons (.int 0) (.cons (.tup (.cons (.tup (.cons (.str "back") (.cons (.int 0) (.cons (.tup (.cons (.str "at") (.cons (.int 1) .nil))) .nil)))) (.cons (.tup (.cons (.str "back") (.cons (.int 0) (.cons (.tup (.cons (.str "at") (.cons (.int 2) .nil))) .nil)))) .nil))) .nil)))))
  .nil) .nil)
  (.cons (.ite (.cmp .eq (.var 0) (.str "slow")) (.cons (.ret (.tup (.cons (.tup (.cons (.int 1) (.cons (.int 1) .nil))) (.cons (.int 0) (.cons (.tup (.cons (.tup (.cons (.str "back") (.cons (.int 0) (.cons (.tup (.cons (.str "at") (.cons (.int 1) .nil))) .nil)))) (.cons (.tup (.cons (.str "back") (.cons (.int 1) (.cons (.tup (.cons (.str "at") (.cons (.int 2) .nil))) .nil)))) .nil))) .nil)))))
  .nil) .nil)
  (.cons (.ite (.cmp .eq (.var 0) (.str "half")) (.cons (.ret (.tup (.cons (.tup (.cons (.int 1) (.cons (.int 1) .nil))) (.cons (.int 0) (.cons (.tup (.cons (.tup (.cons (.str "of") (.cons (.tup (.cons (.str "at") (.cons (.int 1) .nil))) .nil))) (.cons (.tup (.cons (.str "back") (.cons (.int 0) (.cons (.tup (.cons (.str "at") (.cons (.int 1) .nil))) .nil)))) .nil))) .nil)))))
  .nil) .nil)
  (.cons (.ite (.cmp .eq (.var 0) (.str "golden")) (.cons (.ret (.tup (.cons (.tup (.cons (.int 1) .nil)) (.cons (.int 0) (.cons (.tup (.cons (.tup (.cons (.str "rest") (.cons (.int 0) (.cons (.tup (.cons (.str "of") (.cons (.tup (.cons (.str "at") (.cons (.int 1) .nil))) .nil))) .nil)))) .nil)) .nil)))))
  .nil) .nil)
  (.cons (.ite (.cmp .eq (.var 0) (.str "own counts")) (.cons (.ret (.tup (.cons (.tup (.cons (.int 1) .nil)) (.cons (.int 1) (.cons (.tup (.cons (.tup (.cons (.str "back") (.cons (.int 0) (.cons (.tup (.cons (.str "of") (.cons (.tup (.cons (.str "at") (.cons (.int 1) .nil))) .nil))) .nil)))) .nil)) .nil)))))
  .nil) .nil)
  (.cons (.raise 0)
  .nil)))))) }
/-- never_falls: 0 rule, 1 many, 2 one -/
def fd_p_never_falls : FD := { name := "never_falls", ar := 2, N := ["rule", "many", "one"], body :=
  (.cons (.ret (.bi .all (.cons (.lc (.seq (.call kf_p_steps (.cons (.var 0) (.cons (.var 1) .nil)))) (.nm 2) [("one", 2)] .none (.cmp .ge (.var 2) (.int 0))) .nil)))
  .nil) }
/-- never_looked: 0 rule, 1 many, 2 row, 3 seen, 4 place, 5 term -/
def fd_p_never_looked : FD := { name := "never_looked", ar := 2, N := ["rule", "many", "row", "seen", "place", "term"], body :=
  (.cons (.expr (.call kf_p_look_rule (.cons (.var 0) .nil)))
  (.cons (.expr (.call kf_p_look_many (.cons (.var 1) .nil)))
  (.cons (.asg 2 (.call kf_p_row_of (.cons (.var 0) (.cons (.var 1) .nil))))
  (.cons (.asg 3 (.dic0))
  (.cons (.for (.nm 4) (.rng2 (.bin .add (.bi .len (.cons (.ix (.var 0) (.int 0)) .nil)) (.int 1)) (.bin .add (.bi .len (.cons (.var 2) .nil)) (.int 1))) (.cons (.for (.nm 5) (.seq (.lc (.seq (.ix (.var 0) (.int 2))) (.nm 5) [("term", 5)] (.some (.cmp .ne (.ix (.var 5) (.int 0)) (.str "rest"))) (.var 5))) (.cons (.setix 3 (.call kf_p_place_of (.cons (.var 5) (.cons (.slice (.var 2) .none (.some (.bin .sub (.var 4) (.int 1)))) .nil))) (.bl true))
  .nil))
  .nil))
  (.cons (.ret (.lc (.rng2 (.int 1) (.bin .add (.bi .len (.cons (.var 2) .nil)) (.int 1))) (.nm 4) [("place", 4)] (.some (.cmp .notin (.var 4) (.var 3))) (.var 4)))
  .nil)))))) }
/-- number_in: 0 word, 1 sign, 2 figures, 3 one -/
def fd_p_number_in : FD := { name := "number_in", ar := 1, N := ["word", "sign", "figures", "one"], body :=
  (.cons (.asg 1 (.ife (.cmp .eq (.slice (.var 0) .none (.some (.int 1))) (.str "-")) (.neg (.int 1)) (.int 1)))
  (.cons (.asg 2 (.ife (.cmp .lt (.var 1) (.int 0)) (.slice (.var 0) (.some (.int 1)) .none) (.var 0)))
  (.cons (.ite (.or (.cons (.cmp .eq (.var 2) (.str "")) (.cons (.cmp .gt (.bi .len (.cons (.var 2) .nil)) (.int 99)) (.cons (.not (.bi .all (.cons (.lc (.seq (.var 2)) (.nm 3) [("one", 3)] .none (.cmp .isin (.var 3) (.str "0123456789"))) .nil))) .nil)))) (.cons (.raise 3)
  .nil) .nil)
  (.cons (.ret (.bin .mul (.var 1) (.bi .int (.cons (.var 2) .nil))))
  .nil)))) }
/-- parting: 0 one, 1 other, 2 many, 3 mine, 4 yours, 5 place -/
def fd_p_parting : FD := { name := "parting", ar := 3, N := ["one", "other", "many", "mine", "yours", "place"], body :=
  (.cons (.expr (.call kf_p_look_rule (.cons (.var 0) .nil)))
  (.cons (.expr (.call kf_p_look_rule (.cons (.var 1) .nil)))
  (.cons (.expr (.call kf_p_look_many (.cons (.var 2) .nil)))
  (.cons (.par [3, 4] (.cons (.call kf_p_row_of (.cons (.var 0) (.cons (.var 2) .nil))) (.cons (.call kf_p_row_of (.cons (.var 1) (.cons (.var 2) .nil))) .nil)))
  (.cons (.for (.nm 5) (.rng1 (.bi .max (.cons (.bi .len (.cons (.var 3) .nil)) (.cons (.bi .len (.cons (.var 4) .nil)) .nil)))) (.cons (.ite (.cmp .ne (.slice (.var 3) (.some (.var 5)) (.some (.bin .add (.var 5) (.int 1)))) (.slice (.var 4) (.some (.var 5)) (.some (.bin .add (.var 5) (.int 1))))) (.cons (.ret (.bin .add (.var 5) (.int 1)))
  .nil) .nil)
  .nil))
  (.cons (.ret (.non))
  .nil)))))) }
/-- parts_of: 0 rule, 1 many, 2 row, 3 made, 4 place, 5 one, 6 counted, 7 often, 8 rest, 9 term, 10 other, 11 more -/
def fd_p_parts_of : FD := { name := "parts_of", ar := 2, N := ["rule", "many", "row", "made", "place", "one", "counted", "often", "rest", "term", "other", "more"], body :=
  (.cons (.asg 2 (.call kf_p_row_of (.cons (.var 0) (.cons (.var 1) .nil))))
  (.cons (.asg 3 (.lst .nil))
  (.cons (.for (.nm 4) (.rng2 (.int 1) (.bin .add (.bi .len (.cons (.var 2) .nil)) (.int 1))) (.cons (.ite (.cmp .le (.var 4) (.bi .len (.cons (.ix (.var 0) (.int 0)) .nil))) (.cons (.append 3 (.tup (.cons (.lc (.rng1 (.bi .len (.cons (.ix (.var 0) (.int 0)) .nil))) (.nm 5) [("one", 5)] .none (.bi .int (.cons (.cmp .eq (.var 4) (.bin .add (.var 5) (.int 1))) .nil))) (.cons (.int 0) (.cons (.int 0) .nil)))))
  .nil) (.cons (.par [6, 7, 8] (.cons (.bin .mul (.lst (.cons (.int 0) .nil)) (.bi .len (.cons (.ix (.var 0) (.int 0)) .nil))) (.cons (.int 1) (.cons (.int 0) .nil))))
  (.cons (.for (.nm 9) (.seq (.ix (.var 0) (.int 2))) (.cons (.ite (.cmp .eq (.ix (.var 9) (.int 0)) (.str "rest")) (.cons (.asg 8 (.bin .add (.var 8) (.call kf_p_number_of (.cons (.var 9) (.cons (.slice (.var 2) .none (.some (.bin .sub (.var 4) (.int 1)))) .nil)))))
  .nil) (.cons (.asg 10 (.ix (.var 3) (.bin .sub (.call kf_p_place_of (.cons (.var 9) (.cons (.slice (.var 2) .none (.some (.bin .sub (.var 4) (.int 1)))) .nil))) (.int 1))))
  (.cons (.asg 6 (.lc (.zip (.var 6) (.ix (.var 10) (.int 0))) (.tp [5, 11]) [("one", 5), ("more", 11)] .none (.bin .add (.var 5) (.var 11))))
  (.cons (.par [7, 8] (.cons (.bin .add (.var 7) (.ix (.var 10) (.int 1))) (.cons (.bin .add (.var 8) (.ix (.var 10) (.int 2))) .nil)))
  .nil))))
  .nil))
  (.cons (.append 3 (.tup (.cons (.var 6) (.cons (.var 7) (.cons (.var 8) .nil)))))
  .nil))))
  .nil))
  (.cons (.ret (.var 3))
  .nil)))) }
/-- ratio: 0 rule, 1 place -/
def fd_p_ratio : FD := { name := "ratio", ar := 2, N := ["rule", "place"], body :=
  (.cons (.ret (.call kf_p_lowest (.cons (.call kf_p_number_at (.cons (.var 0) (.cons (.var 1) .nil))) (.cons (.var 1) .nil))))
  .nil) }
/-- roots_of: 0 rule, 1 place, 2 counted, 3 often, 4 rest -/
def fd_p_roots_of : FD := { name := "roots_of", ar := 2, N := ["rule", "place", "counted", "often", "rest"], body :=
  (.cons (.expr (.call kf_p_number_at (.cons (.var 0) (.cons (.var 1) .nil))))
  (.cons (.asgT [2, 3, 4] (.ix (.call kf_p_parts_of (.cons (.var 0) (.cons (.var 1) .nil))) (.bin .sub (.var 1) (.int 1))))
  (.cons (.ret (.tup (.cons (.bi .tuple (.cons (.var 2) .nil)) (.cons (.var 3) (.cons (.var 4) .nil)))))
  .nil))) }
/-- shifted_alike: 0 one, 1 other, 2 by, 3 many, 4 mine, 5 yours -/
def fd_p_shifted_alike : FD := { name := "shifted_alike", ar := 4, N := ["one", "other", "by", "many", "mine", "yours"], body :=
  (.cons (.expr (.call kf_p_look_rule (.cons (.var 0) .nil)))
  (.cons (.expr (.call kf_p_look_rule (.cons (.var 1) .nil)))
  (.cons (.expr (.call kf_p_look_many (.cons (.var 3) .nil)))
  (.cons (.expr (.call kf_p_look_many (.cons (.var 2) .nil)))
  (.cons (.expr (.call kf_p_look_many (.cons (.bin .add (.var 3) (.var 2)) .nil)))
  (.cons (.par [4, 5] (.cons (.call kf_p_row_of (.cons (.var 0) (.cons (.var 3) .nil))) (.cons (.call kf_p_row_of (.cons (.var 1) (.cons (.bin .add (.var 3) (.var 2)) .nil))) .nil)))
  (.cons (.ret (.and (.cons (.cmp .eq (.bi .len (.cons (.var 4) .nil)) (.var 3)) (.cons (.cmp .eq (.bi .len (.cons (.var 5) .nil)) (.bin .add (.var 3) (.var 2))) (.cons (.cmp .eq (.var 4) (.slice (.var 5) (.some (.var 2)) .none)) .nil)))))
  .nil))))))) }
/-- slow_at: 0 place, 1 low, 2 high, 3 middle -/
def fd_p_slow_at : FD := { name := "slow_at", ar := 1, N := ["place", "low", "high", "middle"], body :=
  (.cons (.expr (.call kf_p_look_place (.cons (.var 0) .nil)))
  (.cons (.par [1, 2] (.cons (.int 0) (.cons (.var 0) .nil)))
  (.cons (.while (.cmp .gt (.bin .sub (.var 2) (.var 1)) (.int 1)) (.cons (.asg 3 (.bin .fdiv (.bin .add (.var 1) (.var 2)) (.int 2)))
  (.cons (.ite (.cmp .ge (.call kf_p_last_slow (.cons (.var 3) .nil)) (.var 0)) (.cons (.asg 2 (.var 3))
  .nil) (.cons (.asg 1 (.var 3))
  .nil))
  .nil)))
  (.cons (.ret (.var 2))
  .nil)))) }
/-- slow_often: 0 number, 1 made -/
def fd_p_slow_often : FD := { name := "slow_often", ar := 1, N := ["number", "made"], body :=
  (.cons (.expr (.call kf_p_look_place (.cons (.var 0) .nil)))
  (.cons (.asg 1 (.ife (.cmp .eq (.var 0) (.int 1)) (.int 2) (.int 1)))
  (.cons (.while (.cmp .eq (.bin .md (.var 0) (.int 2)) (.int 0)) (.cons (.asg 1 (.bin .add (.var 1) (.int 1)))
  (.cons (.asg 0 (.bin .fdiv (.var 0) (.int 2)))
  .nil)))
  (.cons (.ret (.var 1))
  .nil)))) }
/-- steepest: 0 rule, 1 many, 2 row, 3 best, 4 place -/
def fd_p_steepest : FD := { name := "steepest", ar := 2, N := ["rule", "many", "row", "best", "place"], body :=
  (.cons (.asg 2 (.call kf_p_numbers (.cons (.var 0) (.cons (.var 1) .nil))))
  (.cons (.asg 3 (.int 1))
  (.cons (.for (.nm 4) (.rng2 (.int 2) (.bin .add (.bi .len (.cons (.var 2) .nil)) (.int 1))) (.cons (.ite (.cmp .gt (.bin .mul (.ix (.var 2) (.bin .sub (.var 4) (.int 1))) (.var 3)) (.bin .mul (.ix (.var 2) (.bin .sub (.var 3) (.int 1))) (.var 4))) (.cons (.asg 3 (.var 4))
  .nil) .nil)
  .nil))
  (.cons (.ret (.var 3))
  .nil)))) }
/-- sum_between: 0 rule, 1 one, 2 other -/
def fd_p_sum_between : FD := { name := "sum_between", ar := 3, N := ["rule", "one", "other"], body :=
  (.cons (.expr (.call kf_p_look_rule (.cons (.var 0) .nil)))
  (.cons (.expr (.call kf_p_look_many (.cons (.var 1) .nil)))
  (.cons (.expr (.call kf_p_look_many (.cons (.var 2) .nil)))
  (.cons (.expr (.call kf_p_number_at (.cons (.var 0) (.cons (.bi .max (.cons (.var 1) (.cons (.var 2) .nil))) .nil))))
  (.cons (.ite (.cmp .lt (.var 2) (.var 1)) (.cons (.raise 1)
  .nil) .nil)
  (.cons (.ret (.bi .sum (.cons (.slice (.call kf_p_numbers (.cons (.var 0) (.cons (.var 2) .nil))) (.some (.bin .sub (.var 1) (.int 1))) .none) .nil)))
  .nil)))))) }
/-- term_in: 0 text, 1 deep, 2 start, 3 inner -/
def fd_p_term_in : FD := { name := "term_in", ar := 2, N := ["text", "deep", "start", "inner"], body :=
  (.cons (.ite (.or (.cons (.cmp .eq (.var 1) (.int 0)) (.cons (.cmp .notin (.slice (.var 0) .none (.some (.int 1))) (.tup (.cons (.str "a") (.cons (.str "b") (.cons (.str "r") .nil))))) .nil))) (.cons (.raise 3)
  .nil) .nil)
  (.cons (.ite (.and (.cons (.cmp .eq (.ix (.var 0) (.int 0)) (.str "a")) (.cons (.cmp .ne (.slice (.var 0) (.some (.int 1)) (.some (.int 2))) (.str "(")) .nil))) (.cons (.ret (.tup (.cons (.str "at") (.cons (.call kf_p_digit (.cons (.slice (.var 0) (.some (.int 1)) .none) .nil)) .nil))))
  .nil) .nil)
  (.cons (.asg 2 (.ife (.cmp .eq (.ix (.var 0) (.int 0)) (.str "a")) (.int 1) (.int 2)))
  (.cons (.ite (.or (.cons (.cmp .ne (.slice (.var 0) (.some (.var 2)) (.some (.bin .add (.var 2) (.int 1)))) (.str "(")) (.cons (.cmp .ne (.slice (.var 0) (.some (.neg (.int 1))) .none) (.str ")")) .nil))) (.cons (.raise 3)
  .nil) .nil)
  (.cons (.asg 3 (.call kf_p_term_in (.cons (.slice (.var 0) (.some (.bin .add (.var 2) (.int 1))) (.some (.neg (.int 1)))) (.cons (.bin .sub (.var 1) (.int 1)) .nil))))
  (.cons (.ite (.cmp .eq (.ix (.var 0) (.int 0)) (.str "a")) (.cons (.ret (.tup (.cons (.str "of") (.cons (.var 3) .nil))))
  .nil) .nil)
  (.cons (.ret (.tup (.cons (.ife (.cmp .eq (.ix (.var 0) (.int 0)) (.str "b")) (.str "back") (.str "rest")) (.cons (.call kf_p_digit (.cons (.ix (.var 0) (.int 1)) .nil)) (.cons (.var 3) .nil)))))
  .nil))))))) }
/-- term_text: 0 term -/
def fd_p_term_text : FD := { name := "term_text", ar := 1, N := ["term"], body :=
  (.cons (.ite (.cmp .eq (.ix (.var 0) (.int 0)) (.str "at")) (.cons (.ret (.bin .add (.str "a") (.bi .str (.cons (.ix (.var 0) (.int 1)) .nil))))
  .nil) .nil)
  (.cons (.ite (.cmp .eq (.ix (.var 0) (.int 0)) (.str "of")) (.cons (.ret (.bin .add (.bin .add (.str "a(") (.call kf_p_term_text (.cons (.ix (.var 0) (.int 1)) .nil))) (.str ")")))
  .nil) .nil)
  (.cons (.ret (.bin .add (.bin .add (.bin .add (.bin .add (.ife (.cmp .eq (.ix (.var 0) (.int 0)) (.str "back")) (.str "b") (.str "r")) (.bi .str (.cons (.ix (.var 0) (.int 1)) .nil))) (.str "(")) (.call kf_p_term_text (.cons (.ix (.var 0) (.int 2)) .nil))) (.str ")")))
  .nil))) }
/-- with_first: 0 rule, 1 some, 2 made -/
def fd_p_with_first : FD := { name := "with_first", ar := 2, N := ["rule", "some", "made"], body :=
  (.cons (.expr (.call kf_p_look_rule (.cons (.var 0) .nil)))
  (.cons (.asg 2 (.tup (.cons (.bi .tuple (.cons (.var 1) .nil)) (.cons (.ix (.var 0) (.int 1)) (.cons (.ix (.var 0) (.int 2)) .nil)))))
  (.cons (.expr (.call kf_p_look_rule (.cons (.var 2) .nil)))
  (.cons (.ret (.var 2))
  .nil)))) }
/-- unfolded: 0 rule, 1 many -/
def fd_p_unfolded : FD := { name := "unfolded", ar := 2, N := ["rule", "many"], body :=
  (.cons (.expr (.call kf_p_look_rule (.cons (.var 0) .nil)))
  (.cons (.ite (.or (.cons (.not (.call kf_p_is_whole (.cons (.var 1) (.cons (.bi .len (.cons (.ix (.var 0) (.int 0)) .nil)) (.cons (.glob "MOST_FIRST" 6) .nil))))) (.cons (.cmp .lt (.bi .len (.cons (.call kf_p_row_of (.cons (.var 0) (.cons (.var 1) .nil))) .nil)) (.var 1)) .nil))) (.cons (.raise 1)
  .nil) .nil)
  (.cons (.ret (.call kf_p_with_first (.cons (.var 0) (.cons (.call kf_p_row_of (.cons (.var 0) (.cons (.var 1) .nil))) .nil))))
  .nil))) }
/-- way_back: 0 rule, 1 place, 2 number, 3 row, 4 made -/
def fd_p_way_back : FD := { name := "way_back", ar := 3, N := ["rule", "place", "number", "row", "made"], body :=
  (.cons (.expr (.call kf_p_number_at (.cons (.var 0) (.cons (.var 1) .nil))))
  (.cons (.ite (.not (.call kf_p_is_whole (.cons (.var 2) (.cons (.int 0) (.cons (.bin .sub (.bi .len (.cons (.ix (.var 0) (.int 2)) .nil)) (.int 1)) .nil))))) (.cons (.raise 1)
  .nil) .nil)
  (.cons (.asg 3 (.call kf_p_row_of (.cons (.var 0) (.cons (.var 1) .nil))))
  (.cons (.asg 4 (.lst (.cons (.var 1) .nil)))
  (.cons (.while (.cmp .gt (.ix (.var 4) (.neg (.int 1))) (.bi .len (.cons (.ix (.var 0) (.int 0)) .nil))) (.cons (.ite (.cmp .eq (.ix (.ix (.ix (.var 0) (.int 2)) (.var 2)) (.int 0)) (.str "rest")) (.cons (.ret (.var 4))
  .nil) .nil)
  (.cons (.append 4 (.call kf_p_place_of (.cons (.ix (.ix (.var 0) (.int 2)) (.var 2)) (.cons (.slice (.var 3) .none (.some (.bin .sub (.ix (.var 4) (.neg (.int 1))) (.int 1)))) .nil))))
  .nil)))
  (.cons (.ret (.var 4))
  .nil)))))) }
/-- why_ends: 0 rule, 1 many, 2 made, 3 k, 4 term -/
def fd_p_why_ends : FD := { name := "why_ends", ar := 2, N := ["rule", "many", "made", "k", "term"], body :=
  (.cons (.asg 2 (.call kf_p_numbers (.cons (.var 0) (.cons (.var 1) .nil))))
  (.cons (.ite (.cmp .eq (.bi .len (.cons (.var 2) .nil)) (.var 1)) (.cons (.ret (.non))
  .nil) .nil)
  (.cons (.ret (.tup (.cons (.bin .add (.bi .len (.cons (.var 2) .nil)) (.int 1)) (.cons (.ix (.lc (.enum (.ix (.var 0) (.int 2))) (.tp [3, 4]) [("k", 3), ("term", 4)] (.some (.isN false (.call kf_p_number_of (.cons (.var 4) (.cons (.var 2) .nil))))) (.var 3)) (.int 0)) .nil))))
  .nil))) }
/-- law: 0 _law_script, 1 _law_rule_here, 2 _law_row_here, 3 _law_due, 4 _law_k, 5 _law_place, 6 _law_some, 7 _law_often, 8 _law_rest, 9 _law_whole, 10 _law_count, 11 _law_first -/
def fd_law_k41 : FD := { name := "law", ar := 1, N := ["_law_script", "_law_rule_here", "_law_row_here", "_law_due", "_law_k", "_law_place", "_law_some", "_law_often", "_law_rest", "_law_whole", "_law_count", "_law_first"], body :=
  (.cons (.asg 1 (.call kf_l_rule_bd0c (.cons (.var 0) (.cons (.int 10) .nil))))
  (.cons (.asg 2 (.call kf_p_numbers (.cons (.var 1) (.cons (.int 30) .nil))))
  (.cons (.asg 3 (.call kf_l_parts (.cons (.var 1) (.cons (.int 30) .nil))))
  (.cons (.ite (.cmp .ne (.bi .len (.cons (.var 3) .nil)) (.bi .len (.cons (.var 2) .nil))) (.cons (.ret (.bl false))
  .nil) .nil)
  (.cons (.for (.nm 4) (.rng1 (.int 8)) (.cons (.asg 5 (.bin .add (.int 1) (.call kf_l_pick (.cons (.var 0) (.cons (.bin .add (.int 100) (.var 4)) (.cons (.bi .len (.cons (.var 2) .nil)) .nil))))))
  (.cons (.asgT [6, 7, 8] (.call kf_p_roots_of (.cons (.var 1) (.cons (.var 5) .nil))))
  (.cons (.ite (.or (.cons (.cmp .ne (.tup (.cons (.bi .list (.cons (.var 6) .nil)) (.cons (.var 7) (.cons (.var 8) .nil)))) (.ix (.var 3) (.bin .sub (.var 5) (.int 1)))) (.cons (.not (.isi (.var 6) .tuple)) .nil))) (.cons (.ret (.bl false))
  .nil) .nil)
  (.cons (.asg 9 (.bin .add (.bin .add (.bi .sum (.cons (.lc (.zip (.var 6) (.ix (.var 1) (.int 0))) (.tp [10, 11]) [("_law_count", 10), ("_law_first", 11)] .none (.bin .mul (.var 10) (.var 11))) .nil)) (.bin .mul (.var 7) (.ix (.var 1) (.int 1)))) (.var 8)))
  (.cons (.ite (.or (.cons (.cmp .ne (.var 9) (.call kf_p_number_at (.cons (.var 1) (.cons (.var 5) .nil)))) (.cons (.cmp .ne (.var 9) (.ix (.var 2) (.bin .sub (.var 5) (.int 1)))) .nil))) (.cons (.ret (.bl false))
  .nil) .nil)
  .nil))))))
  (.cons (.asg 11 (.call kf_p_roots_of (.cons (.var 1) (.cons (.bi .len (.cons (.ix (.var 1) (.int 0)) .nil)) .nil))))
  (.cons (.ret (.cmp .eq (.var 11) (.tup (.cons (.bin .add (.bin .mul (.tup (.cons (.int 0) .nil)) (.bin .sub (.bi .len (.cons (.ix (.var 1) (.int 0)) .nil)) (.int 1))) (.tup (.cons (.int 1) .nil))) (.cons (.int 0) (.cons (.int 0) .nil))))))
  .nil))))))) }
/-- law: 0 _law_script, 1 _law_rule_here, 2 _law_many, 3 _law_row_here, 4 _law_place, 5 _law_number_here, 6 _law_due, 7 _law_book, 8 _law_met, 9 _law_here, 10 _law_term_here, 11 _law_told -/
def fd_law_k42 : FD := { name := "law", ar := 1, N := ["_law_script", "_law_rule_here", "_law_many", "_law_row_here", "_law_place", "_law_number_here", "_law_due", "_law_book", "_law_met", "_law_here", "_law_term_here", "_law_told"], body :=
  (.cons (.par [1, 2] (.cons (.call kf_l_rule_bd0c (.cons (.var 0) (.cons (.int 10) .nil))) (.cons (.bin .add (.int 1) (.call kf_l_pick (.cons (.var 0) (.cons (.int 0) (.cons (.int 40) .nil))))) .nil)))
  (.cons (.asg 3 (.call kf_p_numbers (.cons (.var 1) (.cons (.var 2) .nil))))
  (.cons (.par [4, 5] (.cons (.bin .add (.int 1) (.call kf_l_pick (.cons (.var 0) (.cons (.int 1) (.cons (.bi .len (.cons (.var 3) .nil)) .nil))))) (.cons (.call kf_l_pick (.cons (.var 0) (.cons (.int 2) (.cons (.bi .len (.cons (.ix (.var 1) (.int 2)) .nil)) .nil)))) .nil)))
  (.cons (.asg 6 (.lst (.cons (.var 4) .nil)))
  (.cons (.while (.and (.cons (.cmp .gt (.ix (.var 6) (.neg (.int 1))) (.bi .len (.cons (.ix (.var 1) (.int 0)) .nil))) (.cons (.cmp .ne (.ix (.ix (.ix (.var 1) (.int 2)) (.var 5)) (.int 0)) (.str "rest")) .nil))) (.cons (.append 6 (.ix (.call kf_p_looks (.cons (.var 1) (.cons (.ix (.var 6) (.neg (.int 1))) .nil))) (.var 5)))
  .nil))
  (.cons (.ite (.or (.cons (.cmp .ne (.call kf_p_way_back (.cons (.var 1) (.cons (.var 4) (.cons (.var 5) .nil)))) (.var 6)) (.cons (.cmp .ne (.var 6) (.revs (.setf false (.var 6)))) .nil))) (.cons (.ret (.bl false))
  .nil) .nil)
  (.cons (.par [7, 8] (.cons (.dic0) (.cons (.lst .nil) .nil)))
  (.cons (.for (.nm 9) (.rng2 (.int 1) (.bin .add (.bi .len (.cons (.var 3) .nil)) (.int 1))) (.cons (.ite (.cmp .gt (.var 9) (.bi .len (.cons (.ix (.var 1) (.int 0)) .nil))) (.cons (.extend 8 (.lc (.seq (.ix (.var 1) (.int 2))) (.nm 10) [("_law_term_here", 10)] (.some (.cmp .ne (.ix (.var 10) (.int 0)) (.str "rest"))) (.ix (.call kf_l_number (.cons (.var 10) (.cons (.var 7) (.cons (.var 9) .nil)))) (.int 1))))
  .nil) .nil)
  (.cons (.setix 7 (.var 9) (.ix (.var 3) (.bin .sub (.var 9) (.int 1))))
  .nil)))
  (.cons (.asg 11 (.call kf_p_never_looked (.cons (.var 1) (.cons (.var 2) .nil))))
  (.cons (.ite (.cmp .ne (.var 11) (.lc (.rng2 (.int 1) (.bin .add (.bi .len (.cons (.var 3) .nil)) (.int 1))) (.nm 9) [("_law_here", 9)] (.some (.cmp .notin (.var 9) (.var 8))) (.var 9))) (.cons (.ret (.bl false))
  .nil) .nil)
  (.cons (.ret (.and (.cons (.cmp .eq (.call kf_p_way_back (.cons (.var 1) (.cons (.int 1) (.cons (.int 0) .nil)))) (.lst (.cons (.int 1) .nil))) (.cons (.cmp .eq (.call kf_p_never_looked (.cons (.var 1) (.cons (.int 1) .nil))) (.lst (.cons (.int 1) .nil))) .nil))))
  .nil))))))))))) }
/-- law: 0 _law_script, 1 _law_rule_here, 2 _law_many, 3 _law_row_here, 4 _law_due, 5 _law_best, 6 _law_one, 7 _law_other, 8 _law_up, 9 _law_down, 10 _law_both, 11 _law_k, 12 _law_place, 13 _law_limit, 14 _law_over -/
def fd_law_k43 : FD := { name := "law", ar := 1, N := ["_law_script", "_law_rule_here", "_law_many", "_law_row_here", "_law_due", "_law_best", "_law_one", "_law_other", "_law_up", "_law_down", "_law_both", "_law_k", "_law_place", "_law_limit", "_law_over"], body :=
  (.cons (.par [1, 2] (.cons (.call kf_l_rule_bd0c (.cons (.var 0) (.cons (.int 10) .nil))) (.cons (.bin .add (.int 1) (.call kf_l_pick (.cons (.var 0) (.cons (.int 0) (.cons (.int 40) .nil))))) .nil)))
  (.cons (.par [3, 4, 5] (.cons (.call kf_l_row (.cons (.var 1) (.cons (.var 2) .nil))) (.cons (.lst .nil) (.cons (.int 1) .nil))))
  (.cons (.for (.nm 6) (.seq (.var 3)) (.cons (.append 4 (.bin .add (.var 6) (.ix (.orT (.var 4) (.lst (.cons (.int 0) .nil))) (.neg (.int 1)))))
  .nil))
  (.cons (.ite (.cmp .ne (.call kf_p_totals (.cons (.var 1) (.cons (.var 2) .nil))) (.var 4)) (.cons (.ret (.bl false))
  .nil) .nil)
  (.cons (.asg 6 (.bin .add (.int 1) (.call kf_l_pick (.cons (.var 0) (.cons (.int 1) (.cons (.bi .len (.cons (.var 3) .nil)) .nil))))))
  (.cons (.asg 7 (.bin .add (.var 6) (.call kf_l_pick (.cons (.var 0) (.cons (.int 2) (.cons (.bin .add (.bin .sub (.bi .len (.cons (.var 3) .nil)) (.var 6)) (.int 1)) .nil))))))
  (.cons (.ite (.cmp .ne (.call kf_p_sum_between (.cons (.var 1) (.cons (.var 6) (.cons (.var 7) .nil)))) (.bin .sub (.ix (.var 4) (.bin .sub (.var 7) (.int 1))) (.ife (.cmp .gt (.var 6) (.int 1)) (.ix (.var 4) (.bin .sub (.var 6) (.int 2))) (.int 0)))) (.cons (.ret (.bl false))
  .nil) .nil)
  (.cons (.asgT [8, 9] (.call kf_p_ratio (.cons (.var 1) (.cons (.var 6) .nil))))
  (.cons (.asg 10 (.lc (.rng2 (.int 2) (.bin .add (.var 9) (.int 1))) (.nm 11) [("_law_k", 11)] (.some (.and (.cons (.cmp .eq (.bin .md (.var 8) (.var 11)) (.int 0)) (.cons (.cmp .eq (.bin .md (.var 9) (.var 11)) (.int 0)) .nil)))) (.var 11)))
  (.cons (.ite (.or (.cons (.cmp .ne (.bin .mul (.var 8) (.var 6)) (.bin .mul (.ix (.var 3) (.bin .sub (.var 6) (.int 1))) (.var 9))) (.cons (.cmp .lt (.var 9) (.int 1)) (.cons (.cmp .ne (.var 10) (.lst .nil)) .nil)))) (.cons (.ret (.bl false))
  .nil) .nil)
  (.cons (.for (.nm 12) (.rng2 (.int 1) (.bin .add (.bi .len (.cons (.var 3) .nil)) (.int 1))) (.cons (.ite (.cmp .gt (.bin .mul (.ix (.var 3) (.bin .sub (.var 12) (.int 1))) (.var 5)) (.bin .mul (.ix (.var 3) (.bin .sub (.var 5) (.int 1))) (.var 12))) (.cons (.asg 5 (.var 12))
  .nil) .nil)
  .nil))
  (.cons (.ite (.cmp .ne (.call kf_p_steepest (.cons (.var 1) (.cons (.var 2) .nil))) (.var 5)) (.cons (.ret (.bl false))
  .nil) .nil)
  (.cons (.asg 13 (.bin .sub (.call kf_l_pick (.cons (.var 0) (.cons (.int 3) (.cons (.int 60) .nil)))) (.int 5)))
  (.cons (.asg 14 (.lc (.rng2 (.int 1) (.bin .add (.bi .len (.cons (.var 3) .nil)) (.int 1))) (.nm 12) [("_law_place", 12)] (.some (.cmp .gt (.ix (.var 4) (.bin .sub (.var 12) (.int 1))) (.var 13))) (.var 12)))
  (.cons (.ret (.and (.cons (.cmp .eq (.call kf_p_first_over (.cons (.var 1) (.cons (.var 13) (.cons (.var 2) .nil)))) (.ife (.cmp .ne (.var 14) (.lst .nil)) (.ix (.var 14) (.int 0)) (.non))) (.cons (.cmp .eq (.call kf_p_numbers (.cons (.var 1) (.cons (.var 2) .nil))) (.var 3)) .nil))))
  .nil))))))))))))))) }
/-- law: 0 _law_script, 1 _law_size, 2 _law_first, 3 _law_k, 4 _law_terms, 5 _law_rule, 6 _law_many, 7 _law_row, 8 _law_grown, 9 _law_bigger, 10 _law_place, 11 _law_counted, 12 _law_often, 13 _law_rest, 14 _law_other -/
def fd_law_k57 : FD := { name := "law", ar := 1, N := ["_law_script", "_law_size", "_law_first", "_law_k", "_law_terms", "_law_rule", "_law_many", "_law_row", "_law_grown", "_law_bigger", "_law_place", "_law_counted", "_law_often", "_law_rest", "_law_other"], body :=
  (.cons (.asg 1 (.bin .add (.int 1) (.call kf_l_pick (.cons (.var 0) (.cons (.int 0) (.cons (.int 4) .nil))))))
  (.cons (.asg 2 (.bi .tuple (.cons (.lc (.rng1 (.var 1)) (.nm 3) [("_law_k", 3)] .none (.call kf_l_pick (.cons (.var 0) (.cons (.bin .add (.int 10) (.var 3)) (.cons (.int 9) .nil))))) .nil)))
  (.cons (.asg 4 (.bi .tuple (.cons (.lc (.rng1 (.bin .add (.int 1) (.call kf_l_pick (.cons (.var 0) (.cons (.int 1) (.cons (.int 2) .nil)))))) (.nm 3) [("_law_k", 3)] .none (.tup (.cons (.str "at") (.cons (.bin .add (.int 1) (.call kf_l_pick (.cons (.var 0) (.cons (.bin .add (.int 20) (.var 3)) (.cons (.var 1) .nil))))) .nil)))) .nil)))
  (.cons (.par [5, 6] (.cons (.tup (.cons (.var 2) (.cons (.call kf_l_pick (.cons (.var 0) (.cons (.int 2) (.cons (.int 4) .nil)))) (.cons (.var 4) .nil)))) (.cons (.bin .add (.int 12) (.var 1)) .nil)))
  (.cons (.asg 7 (.call kf_p_numbers (.cons (.var 5) (.cons (.var 6) .nil))))
  (.cons (.ite (.cmp .ne (.bi .len (.cons (.var 7) .nil)) (.var 6)) (.cons (.ret (.bl false))
  .nil) .nil)
  (.cons (.asg 8 (.lst .nil))
  (.cons (.for (.nm 3) (.rng1 (.var 1)) (.cons (.append 8 (.call kf_p_numbers (.cons (.tup (.cons (.bin .add (.bin .add (.slice (.var 2) .none (.some (.var 3))) (.tup (.cons (.bin .add (.ix (.var 2) (.var 3)) (.int 1)) .nil))) (.slice (.var 2) (.some (.bin .add (.var 3) (.int 1))) .none)) (.cons (.ix (.var 5) (.int 1)) (.cons (.var 4) .nil)))) (.cons (.var 6) .nil))))
  .nil))
  (.cons (.asg 9 (.call kf_p_numbers (.cons (.tup (.cons (.var 2) (.cons (.bin .add (.ix (.var 5) (.int 1)) (.int 1)) (.cons (.var 4) .nil)))) (.cons (.var 6) .nil))))
  (.cons (.for (.nm 10) (.rng2 (.int 1) (.bin .add (.var 6) (.int 1))) (.cons (.asgT [11, 12, 13] (.call kf_p_roots_of (.cons (.var 5) (.cons (.var 10) .nil))))
  (.cons (.ite (.or (.cons (.cmp .ne (.var 13) (.int 0)) (.cons (.cmp .ne (.bin .sub (.ix (.var 9) (.bin .sub (.var 10) (.int 1))) (.ix (.var 7) (.bin .sub (.var 10) (.int 1)))) (.var 12)) .nil))) (.cons (.ret (.bl false))
  .nil) .nil)
  (.cons (.ite (.cmp .ne (.lc (.seq (.var 8)) (.nm 14) [("_law_other", 14)] .none (.bin .sub (.ix (.var 14) (.bin .sub (.var 10) (.int 1))) (.ix (.var 7) (.bin .sub (.var 10) (.int 1))))) (.bi .list (.cons (.var 11) .nil))) (.cons (.ret (.bl false))
  .nil) .nil)
  (.cons (.ite (.or (.cons (.and (.cons (.cmp .gt (.var 10) (.var 1)) (.cons (.cmp .lt (.var 12) (.int 1)) .nil))) (.cons (.and (.cons (.cmp .le (.var 10) (.var 1)) (.cons (.cmp .ne (.bi .sum (.cons (.var 11) .nil)) (.int 1)) .nil))) .nil))) (.cons (.ret (.bl false))
  .nil) .nil)
  .nil)))))
  (.cons (.ret (.bl true))
  .nil))))))))))) }
/-- law: 0 _law_script, 1 _law_rule_here, 2 _law_many, 3 _law_row_here, 4 _law_some, 5 _law_ahead, 6 _law_one, 7 _law_cut, 8 _law_rest, 9 _law_best, 10 _law_place, 11 _law_up, 12 _law_down, 13 _law_low, 14 _law_high, 15 _law_limit, 16 _law_there, 17 _law_later -/
def fd_law_k58 : FD := { name := "law", ar := 1, N := ["_law_script", "_law_rule_here", "_law_many", "_law_row_here", "_law_some", "_law_ahead", "_law_one", "_law_cut", "_law_rest", "_law_best", "_law_place", "_law_up", "_law_down", "_law_low", "_law_high", "_law_limit", "_law_there", "_law_later"], body :=
  (.cons (.par [1, 2] (.cons (.call kf_l_rule_bd0c (.cons (.var 0) (.cons (.int 10) .nil))) (.cons (.bin .add (.int 2) (.call kf_l_pick (.cons (.var 0) (.cons (.int 0) (.cons (.int 40) .nil))))) .nil)))
  (.cons (.par [3, 4] (.cons (.call kf_p_numbers (.cons (.var 1) (.cons (.var 2) .nil))) (.cons (.call kf_p_totals (.cons (.var 1) (.cons (.var 2) .nil))) .nil)))
  (.cons (.ite (.cmp .ne (.lc (.zip (.bin .add (.lst (.cons (.int 0) .nil)) (.var 4)) (.var 4)) (.tp [5, 6]) [("_law_ahead", 5), ("_law_one", 6)] .none (.bin .sub (.var 6) (.var 5))) (.var 3)) (.cons (.ret (.bl false))
  .nil) .nil)
  (.cons (.par [6, 7] (.cons (.bin .add (.int 1) (.call kf_l_pick (.cons (.var 0) (.cons (.int 1) (.cons (.bi .len (.cons (.var 3) .nil)) .nil))))) (.cons (.bin .add (.int 1) (.call kf_l_pick (.cons (.var 0) (.cons (.int 2) (.cons (.bi .len (.cons (.var 3) .nil)) .nil))))) .nil)))
  (.cons (.par [6, 7] (.cons (.bi .min (.cons (.var 6) (.cons (.var 7) .nil))) (.cons (.bi .max (.cons (.var 6) (.cons (.var 7) .nil))) .nil)))
  (.cons (.ite (.or (.cons (.cmp .ne (.call kf_p_sum_between (.cons (.var 1) (.cons (.int 1) (.cons (.var 6) .nil)))) (.ix (.var 4) (.bin .sub (.var 6) (.int 1)))) (.cons (.cmp .ne (.call kf_p_sum_between (.cons (.var 1) (.cons (.var 6) (.cons (.var 6) .nil)))) (.ix (.var 3) (.bin .sub (.var 6) (.int 1)))) .nil))) (.cons (.ret (.bl false))
  .nil) .nil)
  (.cons (.asg 8 (.ife (.cmp .lt (.var 6) (.var 7)) (.call kf_p_sum_between (.cons (.var 1) (.cons (.bin .add (.var 6) (.int 1)) (.cons (.var 7) .nil)))) (.int 0)))
  (.cons (.ite (.cmp .ne (.bin .add (.call kf_p_sum_between (.cons (.var 1) (.cons (.int 1) (.cons (.var 6) .nil)))) (.var 8)) (.call kf_p_sum_between (.cons (.var 1) (.cons (.int 1) (.cons (.var 7) .nil))))) (.cons (.ret (.bl false))
  .nil) .nil)
  (.cons (.asg 9 (.call kf_p_ratio (.cons (.var 1) (.cons (.call kf_p_steepest (.cons (.var 1) (.cons (.var 2) .nil))) .nil))))
  (.cons (.for (.nm 10) (.rng2 (.int 1) (.bin .add (.bi .len (.cons (.var 3) .nil)) (.int 1))) (.cons (.asgT [11, 12] (.call kf_p_ratio (.cons (.var 1) (.cons (.var 10) .nil))))
  (.cons (.ite (.or (.cons (.cmp .gt (.bin .mul (.var 11) (.ix (.var 9) (.int 1))) (.bin .mul (.ix (.var 9) (.int 0)) (.var 12))) (.cons (.and (.cons (.cmp .lt (.var 10) (.call kf_p_steepest (.cons (.var 1) (.cons (.var 2) .nil)))) (.cons (.cmp .eq (.bin .mul (.var 11) (.ix (.var 9) (.int 1))) (.bin .mul (.ix (.var 9) (.int 0)) (.var 12))) .nil))) .nil))) (.cons (.ret (.bl false))
  .nil) .nil)
  .nil)))
  (.cons (.par [13, 14] (.cons (.bin .sub (.bi .min (.cons (.var 4) .nil)) (.int 1)) (.cons (.bi .max (.cons (.var 4) .nil)) .nil)))
  (.cons (.ite (.or (.cons (.isN false (.call kf_p_first_over (.cons (.var 1) (.cons (.var 13) (.cons (.var 2) .nil))))) (.cons (.isN true (.call kf_p_first_over (.cons (.var 1) (.cons (.var 14) (.cons (.var 2) .nil))))) .nil))) (.cons (.ret (.bl false))
  .nil) .nil)
  (.cons (.asg 15 (.bin .add (.var 13) (.call kf_l_pick (.cons (.var 0) (.cons (.int 3) (.cons (.bin .add (.bin .sub (.var 14) (.var 13)) (.int 1)) .nil))))))
  (.cons (.par [16, 17] (.cons (.call kf_p_first_over (.cons (.var 1) (.cons (.var 15) (.cons (.var 2) .nil)))) (.cons (.call kf_p_first_over (.cons (.var 1) (.cons (.bin .add (.var 15) (.int 1)) (.cons (.var 2) .nil)))) .nil)))
  (.cons (.ret (.or (.cons (.isN false (.var 16)) (.cons (.and (.cons (.cmp .gt (.ix (.var 4) (.bin .sub (.var 16) (.int 1))) (.var 15)) (.cons (.or (.cons (.isN false (.var 17)) (.cons (.cmp .ge (.var 17) (.var 16)) .nil))) .nil))) .nil))))
  .nil))))))))))))))) }
/-- law: 0 _law_script, 1 _law_rule, 2 _law_many, 3 _law_row, 4 _law_place, 5 _law_number, 6 _law_one, 7 _law_k, 8 _law_great, 9 _law_here -/
def fd_law_k61 : FD := { name := "law", ar := 1, N := ["_law_script", "_law_rule", "_law_many", "_law_row", "_law_place", "_law_number", "_law_one", "_law_k", "_law_great", "_law_here"], body :=
  (.cons (.par [1, 2] (.cons (.call kf_p_named (.cons (.str "slow") .nil)) (.cons (.bin .add (.int 20) (.call kf_l_pick (.cons (.var 0) (.cons (.int 0) (.cons (.int 100) .nil))))) .nil)))
  (.cons (.asg 3 (.call kf_p_numbers (.cons (.var 1) (.cons (.var 2) .nil))))
  (.cons (.ite (.cmp .ne (.lc (.rng2 (.int 1) (.bin .add (.var 2) (.int 1))) (.nm 4) [("_law_place", 4)] .none (.call kf_p_slow_at (.cons (.var 4) .nil))) (.var 3)) (.cons (.ret (.bl false))
  .nil) .nil)
  (.cons (.for (.nm 5) (.rng2 (.int 1) (.ix (.var 3) (.neg (.int 1)))) (.cons (.ite (.cmp .ne (.call kf_p_slow_often (.cons (.var 5) .nil)) (.meth .count (.var 3) (.cons (.var 5) .nil))) (.cons (.ret (.bl false))
  .nil) .nil)
  .nil))
  (.cons (.asg 6 (.bin .add (.int 1) (.call kf_l_pick (.cons (.var 0) (.cons (.int 1) (.cons (.var 2) .nil))))))
  (.cons (.ite (.cmp .ne (.call kf_p_sum_between (.cons (.var 1) (.cons (.var 6) (.cons (.var 2) .nil)))) (.bi .sum (.cons (.lc (.rng2 (.var 6) (.bin .add (.var 2) (.int 1))) (.nm 4) [("_law_place", 4)] .none (.call kf_p_slow_at (.cons (.var 4) .nil))) .nil))) (.cons (.ret (.bl false))
  .nil) .nil)
  (.cons (.ite (.cmp .ne (.ix (.call kf_p_totals (.cons (.var 1) (.cons (.var 2) .nil))) (.neg (.int 1))) (.bin .add (.bi .sum (.cons (.lc (.rng2 (.int 1) (.ix (.var 3) (.neg (.int 1)))) (.nm 7) [("_law_k", 7)] .none (.bin .mul (.var 7) (.call kf_p_slow_often (.cons (.var 7) .nil)))) .nil)) (.bin .mul (.ix (.var 3) (.neg (.int 1))) (.meth .count (.var 3) (.cons (.ix (.var 3) (.neg (.int 1))) .nil))))) (.cons (.ret (.bl false))
  .nil) .nil)
  (.cons (.asg 8 (.bin .add (.int 1000) (.bin .mul (.call kf_l_pick (.cons (.var 0) (.cons (.int 2) (.cons (.int 999983) .nil)))) (.int 900))))
  (.cons (.asg 9 (.call kf_p_slow_at (.cons (.var 8) .nil)))
  (.cons (.ite (.or (.cons (.cmp .notin (.bin .sub (.call kf_p_slow_at (.cons (.bin .add (.var 8) (.int 1)) .nil)) (.var 9)) (.tup (.cons (.int 0) (.cons (.int 1) .nil)))) (.cons (.not (.chain .le .le (.bin .fdiv (.var 8) (.int 2)) (.var 9) (.bin .add (.bin .fdiv (.var 8) (.int 2)) (.int 40)))) .nil))) (.cons (.ret (.bl false))
  .nil) .nil)
  (.cons (.ret (.cmp .ge (.call kf_p_slow_often (.cons (.var 9) .nil)) (.int 1)))
  .nil))))))))))) }
/-- law: 0 _law_script, 1 _law_rule, 2 _law_many, 3 _law_row, 4 _law_place, 5 _law_great, 6 _law_here -/
def fd_law_k62 : FD := { name := "law", ar := 1, N := ["_law_script", "_law_rule", "_law_many", "_law_row", "_law_place", "_law_great", "_law_here"], body :=
  (.cons (.par [1, 2] (.cons (.call kf_p_named (.cons (.str "golden") .nil)) (.cons (.bin .add (.int 20) (.call kf_l_pick (.cons (.var 0) (.cons (.int 0) (.cons (.int 100) .nil))))) .nil)))
  (.cons (.asg 3 (.call kf_p_numbers (.cons (.var 1) (.cons (.var 2) .nil))))
  (.cons (.ite (.cmp .ne (.lc (.rng2 (.int 1) (.bin .add (.var 2) (.int 1))) (.nm 4) [("_law_place", 4)] .none (.call kf_p_golden_at (.cons (.var 4) .nil))) (.var 3)) (.cons (.ret (.bl false))
  .nil) .nil)
  (.cons (.asg 4 (.bin .add (.int 2) (.call kf_l_pick (.cons (.var 0) (.cons (.int 1) (.cons (.bin .sub (.var 2) (.int 1)) .nil))))))
  (.cons (.ite (.or (.cons (.cmp .ne (.call kf_p_looks (.cons (.var 1) (.cons (.var 4) .nil))) (.lst (.cons (.bin .sub (.var 4) (.ix (.var 3) (.bin .sub (.ix (.var 3) (.bin .sub (.var 4) (.int 2))) (.int 1)))) .nil))) (.cons (.cmp .ne (.ix (.var 3) (.bin .sub (.var 4) (.int 1))) (.bin .sub (.var 4) (.ix (.var 3) (.bin .sub (.ix (.var 3) (.bin .sub (.var 4) (.int 2))) (.int 1))))) .nil))) (.cons (.ret (.bl false))
  .nil) .nil)
  (.cons (.asg 5 (.bin .add (.int 1000) (.bin .mul (.call kf_l_pick (.cons (.var 0) (.cons (.int 2) (.cons (.int 999983) .nil)))) (.int 900))))
  (.cons (.asg 6 (.call kf_p_golden_at (.cons (.var 5) .nil)))
  (.cons (.ite (.or (.cons (.cmp .notin (.bin .sub (.call kf_p_golden_at (.cons (.bin .add (.var 5) (.int 1)) .nil)) (.var 6)) (.tup (.cons (.int 0) (.cons (.int 1) .nil)))) (.cons (.cmp .ne (.var 6) (.bin .sub (.var 5) (.call kf_p_golden_at (.cons (.call kf_p_golden_at (.cons (.bin .sub (.var 5) (.int 1)) .nil)) .nil)))) .nil))) (.cons (.ret (.bl false))
  .nil) .nil)
  (.cons (.ret (.or (.cons (.not (.cmp .lt (.bin .mul (.int 1000) (.var 6)) (.bin .mul (.int 618) (.var 5)))) (.cons (.cmp .ge (.var 6) (.bin .fdiv (.bin .mul (.var 5) (.int 618)) (.int 1000))) .nil))))
  .nil))))))))) }
/-- law: 0 _law_script, 1 _law_many, 2 _law_row, 3 _law_number, 4 _law_often, 5 _law_more, 6 _law_far, 7 _law_one, 8 _law_ahead, 9 _law_half, 10 _law_places, 11 _law_told, 12 _law_due, 13 _law_place -/
def fd_law_k63 : FD := { name := "law", ar := 1, N := ["_law_script", "_law_many", "_law_row", "_law_number", "_law_often", "_law_more", "_law_far", "_law_one", "_law_ahead", "_law_half", "_law_places", "_law_told", "_law_due", "_law_place"], body :=
  (.cons (.asg 1 (.bin .add (.int 5) (.call kf_l_pick (.cons (.var 0) (.cons (.int 0) (.cons (.int 190) .nil))))))
  (.cons (.asg 2 (.call kf_p_own_counts (.cons (.var 1) .nil)))
  (.cons (.ite (.or (.cons (.cmp .ne (.var 2) (.call kf_p_numbers (.cons (.call kf_p_named (.cons (.str "own counts") .nil)) (.cons (.var 1) .nil)))) (.cons (.isB true (.call kf_p_never_falls (.cons (.call kf_p_named (.cons (.str "own counts") .nil)) (.cons (.var 1) .nil))) true) .nil))) (.cons (.ret (.bl false))
  .nil) .nil)
  (.cons (.for (.tp [3, 4]) (.seq (.call kf_p_how_often (.cons (.call kf_p_named (.cons (.str "own counts") .nil)) (.cons (.var 1) .nil)))) (.cons (.ite (.or (.cons (.and (.cons (.cmp .lt (.var 3) (.ix (.var 2) (.neg (.int 1)))) (.cons (.cmp .ne (.var 4) (.ix (.var 2) (.bin .sub (.var 3) (.int 1)))) .nil))) (.cons (.cmp .gt (.var 4) (.ix (.var 2) (.bin .sub (.var 3) (.int 1)))) .nil))) (.cons (.ret (.bl false))
  .nil) .nil)
  .nil))
  (.cons (.asg 5 (.call kf_p_own_counts (.cons (.bin .add (.var 1) (.int 300)) .nil)))
  (.cons (.asg 6 (.lc (.zip (.slice (.var 5) (.some (.int 1)) .none) (.var 5)) (.tp [7, 8]) [("_law_one", 7), ("_law_ahead", 8)] (.some (.cmp .notin (.bin .sub (.var 7) (.var 8)) (.tup (.cons (.int 0) (.cons (.int 1) .nil))))) (.var 7)))
  (.cons (.ite (.or (.cons (.cmp .ne (.slice (.var 5) .none (.some (.var 1))) (.var 2)) (.cons (.cmp .ne (.var 6) (.lst .nil)) .nil))) (.cons (.ret (.bl false))
  .nil) .nil)
  (.cons (.par [9, 10] (.cons (.call kf_p_numbers (.cons (.call kf_p_named (.cons (.str "half") .nil)) (.cons (.int 200) .nil))) (.cons (.lst (.cons (.int 1) (.cons (.int 2) (.cons (.int 4) (.cons (.int 8) (.cons (.int 16) (.cons (.int 32) (.cons (.int 64) (.cons (.int 128) .nil))))))))) .nil)))
  (.cons (.asg 11 (.call kf_p_halves (.cons (.bin .add (.int 1) (.call kf_l_pick (.cons (.var 0) (.cons (.int 1) (.cons (.int 20) .nil))))) .nil)))
  (.cons (.asg 12 (.slice (.lc (.seq (.var 10)) (.nm 13) [("_law_place", 13)] .none (.ix (.var 9) (.bin .sub (.var 13) (.int 1)))) .none (.some (.bi .len (.cons (.var 11) .nil)))))
  (.cons (.ite (.cmp .ne (.call kf_p_halves (.cons (.int 8) .nil)) (.lc (.seq (.var 10)) (.nm 13) [("_law_place", 13)] .none (.ix (.var 9) (.bin .sub (.var 13) (.int 1))))) (.cons (.ret (.bl false))
  .nil) .nil)
  (.cons (.ret (.and (.cons (.cmp .eq (.slice (.var 11) .none (.some (.bi .len (.cons (.var 12) .nil)))) (.var 12)) (.cons (.cmp .eq (.var 11) (.slice (.call kf_p_halves (.cons (.int 20) .nil)) .none (.some (.bi .len (.cons (.var 11) .nil))))) .nil))))
  .nil)))))))))))) }
/-- law: 0 _law_script, 1 _law_one, 2 _law_many, 3 _law_other, 4 _law_mine, 5 _law_yours, 6 _law_due, 7 _law_place, 8 _law_told, 9 _law_more, 10 _law_level -/
def fd_law_k65 : FD := { name := "law", ar := 1, N := ["_law_script", "_law_one", "_law_many", "_law_other", "_law_mine", "_law_yours", "_law_due", "_law_place", "_law_told", "_law_more", "_law_level"], body :=
  (.cons (.par [1, 2] (.cons (.call kf_l_rule_bd0c (.cons (.var 0) (.cons (.int 10) .nil))) (.cons (.bin .add (.int 5) (.call kf_l_pick (.cons (.var 0) (.cons (.int 0) (.cons (.int 40) .nil))))) .nil)))
  (.cons (.asg 3 (.call kf_l_rule_bd0c (.cons (.var 0) (.cons (.int 60) .nil))))
  (.cons (.ite (.cmp .eq (.call kf_l_pick (.cons (.var 0) (.cons (.int 1) (.cons (.int 2) .nil)))) (.int 0)) (.cons (.asg 3 (.tup (.cons (.bin .add (.slice (.ix (.var 1) (.int 0)) .none (.some (.neg (.int 1)))) (.tup (.cons (.bin .md (.bin .add (.ix (.ix (.var 1) (.int 0)) (.neg (.int 1))) (.call kf_l_pick (.cons (.var 0) (.cons (.int 2) (.cons (.int 2) .nil))))) (.int 10)) .nil))) (.cons (.ix (.var 1) (.int 1)) (.cons (.ix (.var 1) (.int 2)) .nil)))))
  .nil) .nil)
  (.cons (.par [4, 5, 6] (.cons (.call kf_p_numbers (.cons (.var 1) (.cons (.var 2) .nil))) (.cons (.call kf_p_numbers (.cons (.var 3) (.cons (.var 2) .nil))) (.cons (.non) .nil))))
  (.cons (.for (.nm 7) (.seq (.revs (.lrng (.int 1) (.bin .add (.var 2) (.int 1))))) (.cons (.ite (.cmp .ne (.slice (.var 4) (.some (.bin .sub (.var 7) (.int 1))) (.some (.var 7))) (.slice (.var 5) (.some (.bin .sub (.var 7) (.int 1))) (.some (.var 7)))) (.cons (.asg 6 (.var 7))
  .nil) .nil)
  .nil))
  (.cons (.ite (.or (.cons (.cmp .ne (.call kf_p_parting (.cons (.var 1) (.cons (.var 3) (.cons (.var 2) .nil)))) (.var 6)) (.cons (.cmp .ne (.call kf_p_parting (.cons (.var 3) (.cons (.var 1) (.cons (.var 2) .nil)))) (.var 6)) .nil))) (.cons (.ret (.bl false))
  .nil) .nil)
  (.cons (.ite (.and (.cons (.isN true (.var 6)) (.cons (.cmp .ne (.slice (.call kf_p_totals (.cons (.var 1) (.cons (.var 2) .nil))) .none (.some (.bin .sub (.var 6) (.int 1)))) (.slice (.call kf_p_totals (.cons (.var 3) (.cons (.var 2) .nil))) .none (.some (.bin .sub (.var 6) (.int 1))))) .nil))) (.cons (.ret (.bl false))
  .nil) .nil)
  (.cons (.asg 8 (.call kf_p_alike_from (.cons (.var 1) (.cons (.var 3) (.cons (.var 2) .nil)))))
  (.cons (.ite (.or (.cons (.cmp .ne (.var 8) (.call kf_p_alike_from (.cons (.var 3) (.cons (.var 1) (.cons (.var 2) .nil))))) (.cons (.and (.cons (.isN false (.var 6)) (.cons (.cmp .eq (.bi .len (.cons (.var 4) .nil)) (.var 2)) (.cons (.cmp .ne (.var 8) (.int 1)) .nil)))) .nil))) (.cons (.ret (.bl false))
  .nil) .nil)
  (.cons (.ite (.and (.cons (.isN true (.var 8)) (.cons (.cmp .ne (.slice (.var 4) (.some (.bin .sub (.var 8) (.int 1))) .none) (.slice (.var 5) (.some (.bin .sub (.var 8) (.int 1))) .none)) .nil))) (.cons (.ret (.bl false))
  .nil) .nil)
  (.cons (.ite (.and (.cons (.isN true (.var 8)) (.cons (.cmp .gt (.var 8) (.int 1)) (.cons (.cmp .eq (.ix (.var 4) (.bin .sub (.var 8) (.int 2))) (.ix (.var 5) (.bin .sub (.var 8) (.int 2)))) .nil)))) (.cons (.ret (.bl false))
  .nil) .nil)
  (.cons (.asg 9 (.call kf_p_numbers (.cons (.var 1) (.cons (.bin .add (.var 2) (.int 1)) .nil))))
  (.cons (.asg 10 (.and (.cons (.cmp .eq (.bi .len (.cons (.var 9) .nil)) (.bin .add (.var 2) (.int 1))) (.cons (.cmp .eq (.setf true (.var 9)) (.int 1)) (.cons (.isN false (.call kf_p_end_of (.cons (.var 1) (.cons (.bin .add (.var 2) (.int 1)) .nil)))) .nil)))))
  (.cons (.ite (.or (.cons (.isN true (.call kf_p_parting (.cons (.var 1) (.cons (.var 1) (.cons (.var 2) .nil))))) (.cons (.cmp .ne (.call kf_p_shifted_alike (.cons (.var 1) (.cons (.var 1) (.cons (.int 1) (.cons (.var 2) .nil))))) (.var 10)) .nil))) (.cons (.ret (.bl false))
  .nil) .nil)
  (.cons (.ret (.cmp .eq (.call kf_p_alike_from (.cons (.var 1) (.cons (.var 1) (.cons (.var 2) .nil)))) (.ife (.cmp .eq (.bi .len (.cons (.var 4) .nil)) (.var 2)) (.int 1) (.non))))
  .nil))))))))))))))) }
/-- law: 0 _law_script, 1 _law_rule_here, 2 _law_many, 3 _law_row_here, 4 _law_ups, 5 _law_put, 6 _law_number_here, 7 _law_often, 8 _law_some, 9 _law_tops, 10 _law_place, 11 _law_fall -/
def fd_law_k67 : FD := { name := "law", ar := 1, N := ["_law_script", "_law_rule_here", "_law_many", "_law_row_here", "_law_ups", "_law_put", "_law_number_here", "_law_often", "_law_some", "_law_tops", "_law_place", "_law_fall"], body :=
  (.cons (.par [1, 2] (.cons (.call kf_l_rule_bd0c (.cons (.var 0) (.cons (.int 10) .nil))) (.cons (.bin .add (.int 1) (.call kf_l_pick (.cons (.var 0) (.cons (.int 0) (.cons (.int 50) .nil))))) .nil)))
  (.cons (.par [3, 4, 5] (.cons (.call kf_p_numbers (.cons (.var 1) (.cons (.var 2) .nil))) (.cons (.call kf_p_steps (.cons (.var 1) (.cons (.var 2) .nil))) (.cons (.lst .nil) .nil))))
  (.cons (.ite (.or (.cons (.cmp .ne (.bi .sum (.cons (.var 4) .nil)) (.bin .sub (.ix (.var 3) (.neg (.int 1))) (.ix (.var 3) (.int 0)))) (.cons (.cmp .ne (.bi .len (.cons (.var 4) .nil)) (.bin .sub (.bi .len (.cons (.var 3) .nil)) (.int 1))) .nil))) (.cons (.ret (.bl false))
  .nil) .nil)
  (.cons (.for (.tp [6, 7]) (.seq (.call kf_p_runs (.cons (.var 1) (.cons (.var 2) .nil)))) (.cons (.ite (.or (.cons (.cmp .lt (.var 7) (.int 1)) (.cons (.and (.cons (.cmp .ne (.var 5) (.lst .nil)) (.cons (.cmp .eq (.ix (.var 5) (.neg (.int 1))) (.var 6)) .nil))) .nil))) (.cons (.ret (.bl false))
  .nil) .nil)
  (.cons (.asg 5 (.bin .add (.var 5) (.bin .mul (.lst (.cons (.var 6) .nil)) (.var 7))))
  .nil)))
  (.cons (.ite (.cmp .ne (.var 5) (.var 3)) (.cons (.ret (.bl false))
  .nil) .nil)
  (.cons (.asg 8 (.call kf_p_how_often (.cons (.var 1) (.cons (.var 2) .nil))))
  (.cons (.ite (.or (.cons (.cmp .ne (.bi .sum (.cons (.lc (.seq (.var 8)) (.tp [6, 7]) [("_law_number_here", 6), ("_law_often", 7)] .none (.var 7)) .nil)) (.bi .len (.cons (.var 3) .nil))) (.cons (.cmp .ne (.lc (.seq (.var 8)) (.tp [6, 7]) [("_law_number_here", 6), ("_law_often", 7)] .none (.var 6)) (.setf false (.var 3))) .nil))) (.cons (.ret (.bl false))
  .nil) .nil)
  (.cons (.ite (.cmp .ne (.bi .sum (.cons (.lc (.seq (.var 8)) (.tp [6, 7]) [("_law_number_here", 6), ("_law_often", 7)] .none (.bin .mul (.var 6) (.var 7))) .nil)) (.ix (.call kf_p_totals (.cons (.var 1) (.cons (.var 2) .nil))) (.neg (.int 1)))) (.cons (.ret (.bl false))
  .nil) .nil)
  (.cons (.asg 9 (.call kf_p_records (.cons (.var 1) (.cons (.var 2) .nil))))
  (.cons (.ite (.or (.cons (.cmp .ne (.ix (.var 9) (.int 0)) (.int 1)) (.cons (.cmp .ne (.ix (.var 3) (.bin .sub (.ix (.var 9) (.neg (.int 1))) (.int 1))) (.call kf_p_greatest (.cons (.var 1) (.cons (.var 2) .nil)))) (.cons (.cmp .ne (.call kf_p_greatest (.cons (.var 1) (.cons (.var 2) .nil))) (.bi .max (.cons (.var 3) .nil))) .nil)))) (.cons (.ret (.bl false))
  .nil) .nil)
  (.cons (.ite (.cmp .ne (.lc (.seq (.slice (.var 9) (.some (.int 1)) .none)) (.nm 10) [("_law_place", 10)] (.some (.cmp .le (.ix (.var 3) (.bin .sub (.var 10) (.int 1))) (.bi .max (.cons (.slice (.var 3) .none (.some (.bin .sub (.var 10) (.int 1)))) .nil)))) (.var 10)) (.lst .nil)) (.cons (.ret (.bl false))
  .nil) .nil)
  (.cons (.asg 11 (.call kf_p_first_fall (.cons (.var 1) (.cons (.var 2) .nil))))
  (.cons (.ite (.or (.cons (.cmp .ne (.isN false (.var 11)) (.call kf_p_never_falls (.cons (.var 1) (.cons (.var 2) .nil)))) (.cons (.and (.cons (.call kf_p_is_slow (.cons (.var 1) (.cons (.var 2) .nil))) (.cons (.not (.call kf_p_never_falls (.cons (.var 1) (.cons (.var 2) .nil)))) .nil))) .nil))) (.cons (.ret (.bl false))
  .nil) .nil)
  (.cons (.ret (.or (.cons (.isN false (.var 11)) (.cons (.and (.cons (.cmp .lt (.ix (.var 3) (.bin .sub (.var 11) (.int 1))) (.ix (.var 3) (.bin .sub (.var 11) (.int 2)))) (.cons (.cmp .eq (.slice (.var 3) .none (.some (.bin .sub (.var 11) (.int 1)))) (.bi .sorted (.cons (.slice (.var 3) .none (.some (.bin .sub (.var 11) (.int 1)))) .nil))) .nil))) .nil))))
  .nil)))))))))))))) }
/-- law: 0 _law_script, 1 _law_rule_here, 2 _law_many, 3 _law_term_here, 4 _law_row_here, 5 _law_met, 6 _law_place, 7 _law_spots, 8 _law_counted, 9 _law_often, 10 _law_rest, 11 _law_some, 12 _law_more, 13 _law_spot, 14 _law_there, 15 _law_one, 16 _law_other, 17 _law_number_here, 18 _law_way -/
def fd_law_k73 : FD := { name := "law", ar := 1, N := ["_law_script", "_law_rule_here", "_law_many", "_law_term_here", "_law_row_here", "_law_met", "_law_place", "_law_spots", "_law_counted", "_law_often", "_law_rest", "_law_some", "_law_more", "_law_spot", "_law_there", "_law_one", "_law_other", "_law_number_here", "_law_way"], body :=
  (.cons (.par [1, 2] (.cons (.call kf_l_rule_bd0c (.cons (.var 0) (.cons (.int 10) .nil))) (.cons (.bin .add (.int 6) (.call kf_l_pick (.cons (.var 0) (.cons (.int 0) (.cons (.int 10) .nil))))) .nil)))
  (.cons (.ite (.cmp .isin (.str "rest") (.lc (.seq (.ix (.var 1) (.int 2))) (.nm 3) [("_law_term_here", 3)] .none (.ix (.var 3) (.int 0)))) (.cons (.asg 1 (.tup (.cons (.ix (.var 1) (.int 0)) (.cons (.ix (.var 1) (.int 1)) (.cons (.tup (.cons (.tup (.cons (.str "at") (.cons (.int 1) .nil))) (.cons (.tup (.cons (.str "back") (.cons (.int 1) (.cons (.tup (.cons (.str "at") (.cons (.int 1) .nil))) .nil)))) .nil))) .nil)))))
  .nil) .nil)
  (.cons (.asg 4 (.call kf_p_numbers (.cons (.var 1) (.cons (.var 2) .nil))))
  (.cons (.asg 5 (.lst .nil))
  (.cons (.for (.nm 6) (.rng2 (.bin .add (.bi .len (.cons (.ix (.var 1) (.int 0)) .nil)) (.int 1)) (.bin .add (.bi .len (.cons (.var 4) .nil)) (.int 1))) (.cons (.asg 7 (.call kf_p_looks (.cons (.var 1) (.cons (.var 6) .nil))))
  (.cons (.extend 5 (.var 7))
  (.cons (.asgT [8, 9, 10] (.call kf_p_roots_of (.cons (.var 1) (.cons (.var 6) .nil))))
  (.cons (.par [11, 12] (.cons (.bin .mul (.lst (.cons (.int 0) .nil)) (.bi .len (.cons (.ix (.var 1) (.int 0)) .nil))) (.cons (.int 1) .nil)))
  (.cons (.for (.nm 13) (.seq (.var 7)) (.cons (.asg 14 (.call kf_p_roots_of (.cons (.var 1) (.cons (.var 13) .nil))))
  (.cons (.asg 11 (.lc (.zip (.var 11) (.ix (.var 14) (.int 0))) (.tp [15, 16]) [("_law_one", 15), ("_law_other", 16)] .none (.bin .add (.var 15) (.var 16))))
  (.cons (.asg 12 (.bin .add (.var 12) (.ix (.var 14) (.int 1))))
  .nil))))
  (.cons (.ite (.cmp .ne (.tup (.cons (.bi .list (.cons (.var 8) .nil)) (.cons (.var 9) .nil))) (.tup (.cons (.var 11) (.cons (.var 12) .nil)))) (.cons (.ret (.bl false))
  .nil) .nil)
  (.cons (.ite (.cmp .eq (.var 6) (.bi .len (.cons (.var 4) .nil))) (.cons (.for (.nm 17) (.rng1 (.bi .len (.cons (.ix (.var 1) (.int 2)) .nil))) (.cons (.asg 18 (.call kf_p_way_back (.cons (.var 1) (.cons (.var 6) (.cons (.var 17) .nil)))))
  (.cons (.ite (.or (.cons (.cmp .ne (.ix (.var 18) (.int 1)) (.ix (.var 7) (.var 17))) (.cons (.cmp .lt (.ix (.var 8) (.bin .sub (.ix (.var 18) (.neg (.int 1))) (.int 1))) (.int 1)) (.cons (.cmp .gt (.ix (.var 18) (.neg (.int 1))) (.bi .len (.cons (.ix (.var 1) (.int 0)) .nil))) .nil)))) (.cons (.ret (.bl false))
  .nil) .nil)
  .nil)))
  .nil) .nil)
  .nil))))))))
  (.cons (.ret (.cmp .eq (.call kf_p_never_looked (.cons (.var 1) (.cons (.var 2) .nil))) (.lc (.rng2 (.int 1) (.bin .add (.bi .len (.cons (.var 4) .nil)) (.int 1))) (.nm 6) [("_law_place", 6)] (.some (.cmp .notin (.var 6) (.var 5))) (.var 6))))
  .nil)))))) }
def noF : FD := { name := "", ar := 0, N := [], body := .nil }
def T : List FD := [fd_l_number, fd_l_behind, fd_l_cell, fd_l_pick, fd_l_deed, fd_l_terms, fd_l_found, fd_l_whole, fd_l_is_term, fd_l_is_rule, fd_p_is_whole, fd_p_is_term_in, fd_p_is_term, fd_p_is_rule, fd_p_look_rule, fd_p_look_many, fd_p_place_of, fd_p_number_of, fd_p_next_number, fd_p_row_of, fd_p_numbers, fd_p_number_at, fd_p_looks, fd_p_living, fd_p_steps, fd_p_how_often, fd_p_records, fd_p_runs, fd_p_own_counts, fd_p_halves, fd_l_lists, fd_l_often, fd_l_one_term, fd_l_row, fd_l_parts, fd_l_places, fd_l_put, fd_l_round, fd_l_term, fd_l_rule_0276, fd_l_rule_bd0c, fd_l_spoilt_2772, fd_l_spoilt_8d70, fd_l_spoilt_thing, fd_p_alike_from, fd_p_comes_round, fd_p_digit, fd_p_end_of, fd_p_first_fall, fd_p_totals, fd_p_first_over, fd_p_is_row, fd_p_goes_on, fd_p_look_place, fd_p_root_of, fd_p_golden_at, fd_p_greatest, fd_p_is_slow, fd_p_ones_of, fd_p_last_slow, fd_p_look_row, fd_p_lowest, fd_p_more_for, fd_p_named, fd_p_never_falls, fd_p_never_looked, fd_p_number_in, fd_p_parting, fd_p_parts_of, fd_p_ratio, fd_p_roots_of, fd_p_shifted_alike, fd_p_slow_at, fd_p_slow_often, fd_p_steepest, fd_p_sum_between, fd_p_term_in, fd_p_term_text, fd_p_with_first, fd_p_unfolded, fd_p_way_back, fd_p_why_ends, fd_law_k41, fd_law_k42, fd_law_k43, fd_law_k57, fd_law_k58, fd_law_k61, fd_law_k62, fd_law_k63, fd_law_k65, fd_law_k67, fd_law_k73]
theorem T_l_number : T[kf_l_number]? = some fd_l_number := rfl
theorem T_l_behind : T[kf_l_behind]? = some fd_l_behind := rfl
theorem T_l_cell : T[kf_l_cell]? = some fd_l_cell := rfl
theorem T_l_pick : T[kf_l_pick]? = some fd_l_pick := rfl
theorem T_l_deed : T[kf_l_deed]? = some fd_l_deed := rfl
theorem T_l_terms : T[kf_l_terms]? = some fd_l_terms := rfl
theorem T_l_found : T[kf_l_found]? = some fd_l_found := rfl
theorem T_l_whole : T[kf_l_whole]? = some fd_l_whole := rfl
theorem T_l_is_term : T[kf_l_is_term]? = some fd_l_is_term := rfl
theorem T_l_is_rule : T[kf_l_is_rule]? = some fd_l_is_rule := rfl
theorem T_p_is_whole : T[kf_p_is_whole]? = some fd_p_is_whole := rfl
theorem T_p_is_term_in : T[kf_p_is_term_in]? = some fd_p_is_term_in := rfl
theorem T_p_is_term : T[kf_p_is_term]? = some fd_p_is_term := rfl
theorem T_p_is_rule : T[kf_p_is_rule]? = some fd_p_is_rule := rfl
theorem T_p_look_rule : T[kf_p_look_rule]? = some fd_p_look_rule := rfl
theorem T_p_look_many : T[kf_p_look_many]? = some fd_p_look_many := rfl
theorem T_p_place_of : T[kf_p_place_of]? = some fd_p_place_of := rfl
theorem T_p_number_of : T[kf_p_number_of]? = some fd_p_number_of := rfl
theorem T_p_next_number : T[kf_p_next_number]? = some fd_p_next_number := rfl
theorem T_p_row_of : T[kf_p_row_of]? = some fd_p_row_of := rfl
theorem T_p_numbers : T[kf_p_numbers]? = some fd_p_numbers := rfl
theorem T_p_number_at : T[kf_p_number_at]? = some fd_p_number_at := rfl
theorem T_p_looks : T[kf_p_looks]? = some fd_p_looks := rfl
theorem T_p_living : T[kf_p_living]? = some fd_p_living := rfl
theorem T_p_steps : T[kf_p_steps]? = some fd_p_steps := rfl
theorem T_p_how_often : T[kf_p_how_often]? = some fd_p_how_often := rfl
theorem T_p_records : T[kf_p_records]? = some fd_p_records := rfl
theorem T_p_runs : T[kf_p_runs]? = some fd_p_runs := rfl
theorem T_p_own_counts : T[kf_p_own_counts]? = some fd_p_own_counts := rfl
theorem T_p_halves : T[kf_p_halves]? = some fd_p_halves := rfl
theorem T_l_lists : T[kf_l_lists]? = some fd_l_lists := rfl
theorem T_l_often : T[kf_l_often]? = some fd_l_often := rfl
theorem T_l_one_term : T[kf_l_one_term]? = some fd_l_one_term := rfl
theorem T_l_row : T[kf_l_row]? = some fd_l_row := rfl
theorem T_l_parts : T[kf_l_parts]? = some fd_l_parts := rfl
theorem T_l_places : T[kf_l_places]? = some fd_l_places := rfl
theorem T_l_put : T[kf_l_put]? = some fd_l_put := rfl
theorem T_l_round : T[kf_l_round]? = some fd_l_round := rfl
theorem T_l_term : T[kf_l_term]? = some fd_l_term := rfl
theorem T_l_rule_0276 : T[kf_l_rule_0276]? = some fd_l_rule_0276 := rfl
theorem T_l_rule_bd0c : T[kf_l_rule_bd0c]? = some fd_l_rule_bd0c := rfl
theorem T_l_spoilt_2772 : T[kf_l_spoilt_2772]? = some fd_l_spoilt_2772 := rfl
theorem T_l_spoilt_8d70 : T[kf_l_spoilt_8d70]? = some fd_l_spoilt_8d70 := rfl
theorem T_l_spoilt_thing : T[kf_l_spoilt_thing]? = some fd_l_spoilt_thing := rfl
theorem T_p_alike_from : T[kf_p_alike_from]? = some fd_p_alike_from := rfl
theorem T_p_comes_round : T[kf_p_comes_round]? = some fd_p_comes_round := rfl
theorem T_p_digit : T[kf_p_digit]? = some fd_p_digit := rfl
theorem T_p_end_of : T[kf_p_end_of]? = some fd_p_end_of := rfl
theorem T_p_first_fall : T[kf_p_first_fall]? = some fd_p_first_fall := rfl
theorem T_p_totals : T[kf_p_totals]? = some fd_p_totals := rfl
theorem T_p_first_over : T[kf_p_first_over]? = some fd_p_first_over := rfl
theorem T_p_is_row : T[kf_p_is_row]? = some fd_p_is_row := rfl
theorem T_p_goes_on : T[kf_p_goes_on]? = some fd_p_goes_on := rfl
theorem T_p_look_place : T[kf_p_look_place]? = some fd_p_look_place := rfl
theorem T_p_root_of : T[kf_p_root_of]? = some fd_p_root_of := rfl
theorem T_p_golden_at : T[kf_p_golden_at]? = some fd_p_golden_at := rfl
theorem T_p_greatest : T[kf_p_greatest]? = some fd_p_greatest := rfl
theorem T_p_is_slow : T[kf_p_is_slow]? = some fd_p_is_slow := rfl
theorem T_p_ones_of : T[kf_p_ones_of]? = some fd_p_ones_of := rfl
theorem T_p_last_slow : T[kf_p_last_slow]? = some fd_p_last_slow := rfl
theorem T_p_look_row : T[kf_p_look_row]? = some fd_p_look_row := rfl
theorem T_p_lowest : T[kf_p_lowest]? = some fd_p_lowest := rfl
theorem T_p_more_for : T[kf_p_more_for]? = some fd_p_more_for := rfl
theorem T_p_named : T[kf_p_named]? = some fd_p_named := rfl
theorem T_p_never_falls : T[kf_p_never_falls]? = some fd_p_never_falls := rfl
theorem T_p_never_looked : T[kf_p_never_looked]? = some fd_p_never_looked := rfl
theorem T_p_number_in : T[kf_p_number_in]? = some fd_p_number_in := rfl
theorem T_p_parting : T[kf_p_parting]? = some fd_p_parting := rfl
theorem T_p_parts_of : T[kf_p_parts_of]? = some fd_p_parts_of := rfl
theorem T_p_ratio : T[kf_p_ratio]? = some fd_p_ratio := rfl
theorem T_p_roots_of : T[kf_p_roots_of]? = some fd_p_roots_of := rfl
theorem T_p_shifted_alike : T[kf_p_shifted_alike]? = some fd_p_shifted_alike := rfl
theorem T_p_slow_at : T[kf_p_slow_at]? = some fd_p_slow_at := rfl
theorem T_p_slow_often : T[kf_p_slow_often]? = some fd_p_slow_often := rfl
theorem T_p_steepest : T[kf_p_steepest]? = some fd_p_steepest := rfl
theorem T_p_sum_between : T[kf_p_sum_between]? = some fd_p_sum_between := rfl
theorem T_p_term_in : T[kf_p_term_in]? = some fd_p_term_in := rfl
theorem T_p_term_text : T[kf_p_term_text]? = some fd_p_term_text := rfl
theorem T_p_with_first : T[kf_p_with_first]? = some fd_p_with_first := rfl
theorem T_p_unfolded : T[kf_p_unfolded]? = some fd_p_unfolded := rfl
theorem T_p_way_back : T[kf_p_way_back]? = some fd_p_way_back := rfl
theorem T_p_why_ends : T[kf_p_why_ends]? = some fd_p_why_ends := rfl
theorem T_law_k41 : T[kf_law_k41]? = some fd_law_k41 := rfl
theorem T_law_k42 : T[kf_law_k42]? = some fd_law_k42 := rfl
theorem T_law_k43 : T[kf_law_k43]? = some fd_law_k43 := rfl
theorem T_law_k57 : T[kf_law_k57]? = some fd_law_k57 := rfl
theorem T_law_k58 : T[kf_law_k58]? = some fd_law_k58 := rfl
theorem T_law_k61 : T[kf_law_k61]? = some fd_law_k61 := rfl
theorem T_law_k62 : T[kf_law_k62]? = some fd_law_k62 := rfl
theorem T_law_k63 : T[kf_law_k63]? = some fd_law_k63 := rfl
theorem T_law_k65 : T[kf_law_k65]? = some fd_law_k65 := rfl
theorem T_law_k67 : T[kf_law_k67]? = some fd_law_k67 := rfl
theorem T_law_k73 : T[kf_law_k73]? = some fd_law_k73 := rfl
end DL

/-! W0: forward reading of the deep terms, open. -/
namespace DL.Z
open PySem L2 DL
theorem nr {α : Sort u} {a b : α} (h : a = b) : a = b := h
@[irreducible] def H {α : Type} (r : R α) (Q : α → S → Prop) (E : Nat → S → Prop) : Prop := match r with
  | .ok a s => Q a s
  | .exc k s => E k s
  | .stuck => False
theorem H_congr {α : Type} {r r' : R α} (h : r = r') {Q : α → S → Prop} {E : Nat → S → Prop} : H r Q E = H r' Q E := by rw [h]
def optK {α : Type} (o : Option α) (s : S) (Q : α → S → Prop) : Prop := match o with
  | some a => Q a s
  | none => False
theorem optK_congr {α : Type} {o o' : Option α} (h : o = o') {s : S} {Q : α → S → Prop} : optK o s Q = optK o' s Q := by rw [h]
def stK (s : S) (Q : S → Prop) : Prop := Q s
theorem stK_congr {s s' : S} (h : s = s') {Q : S → Prop} : stK s Q = stK s' Q := by rw [h]
def condK (t : Bool) (A B : Prop) : Prop := (t = true → A) ∧ (t = false → B)
theorem condK_congr {t t' : Bool} (h : t = t') {A B : Prop} : condK t A B = condK t' A B := by rw [h]
def varK (c : Option Cl) (i : Nat) (s : S) (Q : Val → S → Prop) : Prop := match c with
  | some (.fro d) => Q (d, .fro) s
  | some (.own d) => Q (d, .bor i) s
  | _ => False
theorem varK_congr {c c' : Option Cl} (h : c = c') {i : Nat} {s : S} {Q : Val → S → Prop} : varK c i s Q = varK c' i s Q := by rw [h]
def callR (c : CRes) (rs : List Val) (s : S) (Q : Val → S → Prop) (E : Nat → S → Prop) : Prop := match c with
  | .ok d own w => stK { (if imm d then s else s.fzs rs) with w := w } fun s => Q (d, if own then .fre else .fro) s
  | .exc k w => stK { s with w := w } fun s => E k s
  | .stuck => False
theorem callR_congr {c c' : CRes} (h : c = c') {rs : List Val} {s : S} {Q : Val → S → Prop} {E : Nat → S → Prop} : callR c rs s Q E = callR c' rs s Q E := by rw [h]
/-- any known datum, its match put off -/
def datK (d : D) (Q : D → Prop) : Prop := Q d

section
variable {α β : Type} {C : Call} {s : S} {Q : Val → S → Prop} {E : Nat → S → Prop} {ρ : List Cl} {w : List WObj}
theorem H_ok {a : α} {Q : α → S → Prop} : H (.ok a s) Q E = Q a s := nr (by unfold H; rfl)
theorem H_exc {k : Nat} {Q : α → S → Prop} : H (.exc k s) Q E = E k s := nr (by unfold H; rfl)
theorem H_stuck {Q : α → S → Prop} : H .stuck Q E = False := nr (by unfold H; rfl)
theorem H_bind {r : R α} {f : α → S → R β} {Q : β → S → Prop} : H (r.bind f) Q E = H r (fun a s => H (f a s) Q E) E := by
  unfold H
  cases r <;> rfl
theorem H_opt {o : Option α} {Q : α → S → Prop} : H (opt o s) Q E = optK o s Q := by
  unfold H
  cases o <;> rfl
theorem optK_some {a : α} {Q : α → S → Prop} : optK (some a) s Q = Q a s := nr rfl
theorem optK_ite {c : Prop} [Decidable c] {a : α} {Q : α → S → Prop} : optK (if c then some a else none) s Q = (c ∧ Q a s) := by
  by_cases h : c
  · simp [h, optK]
  · simp [h, optK]
theorem stK_mk {Q : S → Prop} : stK ⟨ρ, w⟩ Q = Q ⟨ρ, w⟩ := nr rfl
theorem condK_true {A B : Prop} : condK true A B = A := by simp [condK]
theorem condK_false {A B : Prop} : condK false A B = B := by simp [condK]
theorem condK_dec {p : Prop} [Decidable p] {A B : Prop} : condK (decide p) A B = ((p → A) ∧ (¬p → B)) := by simp [condK]
theorem condK_not {t : Bool} {A B : Prop} : condK (!t) A B = condK t B A := by cases t <;> simp [condK]
theorem varK_fro {d : D} {i : Nat} : varK (some (.fro d)) i s Q = Q (d, .fro) s := nr rfl
theorem varK_own {d : D} {i : Nat} : varK (some (.own d)) i s Q = Q (d, .bor i) s := nr rfl
theorem callR_ok {d : D} {own : Bool} {rs : List Val} : callR (.ok d own w) rs s Q E = stK { (if imm d then s else s.fzs rs) with w := w } fun s => Q (d, if own then .fre else .fro) s := nr rfl
theorem callR_exc {k : Nat} {rs : List Val} : callR (.exc k w) rs s Q E = stK { s with w := w } fun s => E k s := nr rfl

theorem e_var {i : Nat} : H (evalE C (.var i) s) Q E = varK s.ρ[i]? i s Q := by
  simp only [evalE]
  unfold H
  cases q : s.ρ[i]? with
  | none => rfl
  | some c => cases c <;> rfl
theorem e_glob {x : Str} {n : Int} : H (evalE C (.glob x n) s) Q E = Q (.int n, .fro) s := by simp only [evalE, H_ok]
theorem e_int {n : Int} : H (evalE C (.int n) s) Q E = Q (.int n, .fro) s := by simp only [evalE, H_ok]
theorem e_bl {n : Bool} : H (evalE C (.bl n) s) Q E = Q (.bl n, .fro) s := by simp only [evalE, H_ok]
theorem e_str {n : Str} : H (evalE C (.str n) s) Q E = Q (.str n, .fro) s := by simp only [evalE, H_ok]
theorem e_non : H (evalE C .non s) Q E = Q (.non, .fro) s := by simp only [evalE, H_ok]
theorem e_bin {o : BO} {a b : DE} : H (evalE C (.bin o a b) s) Q E = H (evalE C a s) (fun x s => H (evalE C b s) (fun y s => optK (binD o x.1 y.1) s Q) E) E := by
  simp only [evalE, H_bind, H_opt]
theorem e_neg {a : DE} : H (evalE C (.neg a) s) Q E = H (evalE C a s) (fun x s => optK ((intOf x.1).map fun i => ((.int (-i), .fro) : Val)) s Q) E := by simp only [evalE, H_bind, H_opt]
theorem H_asBl {r : R Val} {Q : Bool → S → Prop} : H (asBl r) Q E = H r (fun x s => optK (blOf x.1) s Q) E := by simp only [asBl, H_bind, H_opt]
theorem e_not {a : DE} : H (evalE C (.not a) s) Q E = H (evalE C a s) (fun x s => optK (blOf x.1) s fun b s => Q (.bl (!b), .fro) s) E := by simp only [evalE, H_bind, H_asBl, H_ok]
theorem e_and {es : DEs} : H (evalE C (.and es) s) Q E = H (evalAnd C es s) Q E := by simp only [evalE]
theorem e_or {es : DEs} : H (evalE C (.or es) s) Q E = H (evalOr C es s) Q E := by simp only [evalE]
theorem e_and1 {a : DE} : H (evalAnd C (.cons a .nil) s) Q E = H (evalE C a s) Q E := by simp only [evalAnd]
theorem e_or1 {a : DE} : H (evalOr C (.cons a .nil) s) Q E = H (evalE C a s) Q E := by simp only [evalOr]
theorem H_if {t : Bool} {r r' : R α} {Q : α → S → Prop} : H (if t then r else r') Q E = condK t (H r Q E) (H r' Q E) := by cases t <;> simp [condK]
theorem e_and2 {a b : DE} {r : DEs} : H (evalAnd C (.cons a (.cons b r)) s) Q E = H (evalE C a s) (fun x s => optK (blOf x.1) s fun t s => condK t (H (evalAnd C (.cons b r) s) Q E) (Q (.bl false, .fro) s)) E := by
  simp only [evalAnd, H_bind, H_asBl, H_if, H_ok]
theorem e_or2 {a b : DE} {r : DEs} : H (evalOr C (.cons a (.cons b r)) s) Q E = H (evalE C a s) (fun x s => optK (blOf x.1) s fun t s => condK t (Q (.bl true, .fro) s) (H (evalOr C (.cons b r) s) Q E)) E := by
  simp only [evalOr, H_bind, H_asBl, H_if, H_ok]
theorem e_cmp {o : CO} {a b : DE} : H (evalE C (.cmp o a b) s) Q E = H (evalE C a s) (fun x s => H (evalE C b s) (fun y s => optK (cmpD o x.1 y.1) s fun b s => Q (.bl b, .fro) s) E) E := by
  simp only [evalE, H_bind, H_opt]
  congr; funext x s; congr; funext y s
  cases cmpD o x.1 y.1 <;> rfl
theorem e_chain {o1 o2 : CO} {a b c : DE} : H (evalE C (.chain o1 o2 a b c) s) Q E = H (evalE C a s) (fun x s => H (evalE C b s) (fun y s => optK (cmpD o1 x.1 y.1) s fun t s =>
    condK t (H (evalE C c s) (fun z s => optK (cmpD o2 y.1 z.1) s fun b s => Q (.bl b, .fro) s) E) (Q (.bl false, .fro) s)) E) E := by
  simp only [evalE, H_bind, H_opt, H_if, H_ok]
  congr; funext x s; congr; funext y s
  congr; funext t s; congr; funext z s
  cases cmpD o2 y.1 z.1 <;> rfl
theorem e_isN {n : Bool} {a : DE} : H (evalE C (.isN n a) s) Q E = H (evalE C a s) (fun x s => Q (.bl (isNon x.1 != n), .fro) s) E := by
  simp only [evalE, H_bind]
  congr; funext x s
  obtain ⟨d, k⟩ := x
  unfold H
  cases d <;> cases n <;> rfl
theorem e_isB {n b : Bool} {a : DE} : H (evalE C (.isB n a b) s) Q E = H (evalE C a s) (fun x s => optK (blOf x.1) s fun t s => Q (.bl (if n then !decide (t = b) else decide (t = b)), .fro) s) E := by
  simp only [evalE, H_bind, H_asBl, H_ok]
theorem e_ife {c a b : DE} : H (evalE C (.ife c a b) s) Q E = H (evalE C c s) (fun x s => optK (blOf x.1) s fun t s => condK t (H (evalE C a s) Q E) (H (evalE C b s) Q E)) E := by
  simp only [evalE, H_bind, H_asBl, H_if]
theorem H_ite {c : Prop} [Decidable c] {r : R α} {Q : α → S → Prop} : H (if c then r else .stuck) Q E = (c ∧ H r Q E) := by
  by_cases h : c <;> simp [h, H_stuck]
theorem e_tup {es : DEs} : H (evalE C (.tup es) s) Q E = H (evalFz C es s) (fun ds s => ds.length ≤ 1000 ∧ Q (.tup ds, .fro) s) E := by simp only [evalE, H_bind, H_ite, H_ok]
theorem e_lst {es : DEs} : H (evalE C (.lst es) s) Q E = H (evalFz C es s) (fun ds s => ds.length ≤ 1000 ∧ Q (.lst ds, .fre) s) E := by simp only [evalE, H_bind, H_ite, H_ok]
theorem e_dic0 : H (evalE C .dic0 s) Q E = Q (.dic [], .fre) s := by simp only [evalE, H_ok]
theorem e_fz0 {Q : List D → S → Prop} : H (evalFz C .nil s) Q E = Q [] s := by simp only [evalFz, H_ok]
theorem e_fz {a : DE} {r : DEs} {Q : List D → S → Prop} : H (evalFz C (.cons a r) s) Q E = H (evalE C a s) (fun x s => stK (s.fz x.2) fun s => H (evalFz C r s) (fun xs s => Q (x.1 :: xs) s) E) E := by simp only [evalFz, H_bind, H_ok, stK]
theorem e_es0 {Q : List Val → S → Prop} : H (evalEs C .nil s) Q E = Q [] s := by simp only [evalEs, H_ok]
theorem e_es {a : DE} {r : DEs} {Q : List Val → S → Prop} : H (evalEs C (.cons a r) s) Q E = H (evalE C a s) (fun x s => H (evalEs C r s) (fun xs s => Q (x :: xs) s) E) E := by simp only [evalEs, H_bind, H_ok]
theorem e_ix {a i : DE} : H (evalE C (.ix a i) s) Q E = H (evalE C a s) (fun x s => H (evalE C i s) (fun y s => optK (ixD x.1 y.1) s fun d s => Q (d, .fro) s) E) E := by
  simp only [evalE, H_bind, H_opt]
  congr; funext x s; congr; funext y s
  cases ixD x.1 y.1 <;> rfl
theorem e_slice {a : DE} {lo hi : DO} : H (evalE C (.slice a lo hi) s) Q E = H (evalE C a s) (fun x s => H (evalO C lo s) (fun l s => H (evalO C hi s) (fun h s => optK (sliceD x.1 l h) s Q) E) E) E := by simp only [evalE, H_bind, H_opt]
theorem e_o0 {Q : Option Int → S → Prop} : H (evalO C .none s) Q E = Q none s := by simp only [evalO, H_ok]
theorem e_o {a : DE} {Q : Option Int → S → Prop} : H (evalO C (.some a) s) Q E = H (evalE C a s) (fun x s => optK ((intOf x.1).map some) s Q) E := by simp only [evalO, H_bind, H_opt]
theorem e_bi {b : BI} {es : DEs} : H (evalE C (.bi b es) s) Q E = H (evalEs C es s) (fun rs s => optK (biD b (rs.map (·.1))) s Q) E := by simp only [evalE, H_bind, H_opt]
theorem e_isi {a : DE} {t : TY} : H (evalE C (.isi a t) s) Q E = H (evalE C a s) (fun x s => optK (isiD x.1 t) s fun b s => Q (.bl b, .fro) s) E := by
  simp only [evalE, H_bind, H_opt]
  congr; funext x s
  cases isiD x.1 t <;> rfl
theorem e_meth {m : MT} {a : DE} {es : DEs} : H (evalE C (.meth m a es) s) Q E = H (evalE C a s) (fun x s => recv m x.1 = true ∧ H (evalFz C es s) (fun ds s => optK (methD m x.1 ds) s fun d s => Q (d, .fro) s) E) E := by
  simp only [evalE, H_bind, H_opt, H_ite]
  congr; funext x s; congr; funext ds s
  cases methD m x.1 ds <;> rfl
theorem e_call {k : Nat} {es : DEs} : H (evalE C (.call k es) s) Q E = H (evalEs C es s) (fun rs s => callR (C k (rs.map (·.1)) s.w) rs s Q E) E := by
  simp only [evalE, H_bind]
  congr; funext rs s
  unfold H
  cases C k (rs.map (·.1)) s.w <;> rfl
theorem e_revs {a : DE} : H (evalE C (.revs a) s) Q E = H (evalE C a s) (fun x s => optK (match x.1 with
    | .lst ds => some ((.lst ds.reverse, .fre) : Val)
    | _ => none) s Q) E := by
  simp only [evalE, H_bind]
  congr; funext x s
  obtain ⟨d, k⟩ := x
  unfold H
  cases d <;> rfl
theorem e_orT {a b : DE} : H (evalE C (.orT a b) s) Q E = H (evalE C a s) (fun x s => optK (truD x.1) s fun t s => condK t (Q x s) (H (evalE C b s) Q E)) E := by
  simp only [evalE, H_bind]
  congr; funext x s
  cases q : truD x.1 with
  | none => simp [optK, H_stuck]
  | some t => cases t <;> simp [optK, condK, H_ok]
theorem e_setf {b : Bool} {a : DE} : H (evalE C (.setf b a) s) Q E = H (evalE C a s) (fun x s => optK (setD b x.1) s Q) E := by simp only [evalE, H_bind, H_opt]
end

/-! statements -/
@[irreducible] def HO (o : Out) (N : S → Prop) (V : Val → S → Prop) (B : S → Prop) (E : Nat → S → Prop) : Prop := match o with
  | .nx s => N s
  | .rt r s => V r s
  | .bk s => B s
  | .ct s => False
  | .exc k s => E k s
  | .stuck => False
theorem HO_congr {o o' : Out} (h : o = o') {N : S → Prop} {V : Val → S → Prop} {B : S → Prop} {E : Nat → S → Prop} : HO o N V B E = HO o' N V B E := by rw [h]
section
variable {α β : Type} {C : Call} {s : S} {N : S → Prop} {V : Val → S → Prop} {B : S → Prop} {E : Nat → S → Prop} {ρ : List Cl} {w : List WObj}
theorem HO_nx : HO (.nx s) N V B E = N s := nr (by unfold HO; rfl)
theorem HO_rt {r : Val} : HO (.rt r s) N V B E = V r s := nr (by unfold HO; rfl)
theorem HO_bk : HO (.bk s) N V B E = B s := nr (by unfold HO; rfl)
theorem HO_ct : HO (.ct s) N V B E = False := nr (by unfold HO; rfl)
theorem HO_exc {k : Nat} : HO (.exc k s) N V B E = E k s := nr (by unfold HO; rfl)
theorem HO_stuck : HO .stuck N V B E = False := nr (by unfold HO; rfl)
theorem HO_out {r : R α} {f : α → S → Out} : HO (r.out f) N V B E = H r (fun a s => HO (f a s) N V B E) E := by
  cases r with
  | ok a s => rw [H_ok]; rfl
  | exc k s => rw [H_exc]; exact HO_exc
  | stuck => rw [H_stuck]; exact HO_stuck
theorem x_nil : HO (execB C .nil s) N V B E = N s := by simp only [execB, HO_nx]
theorem x_cons {d : DS} {b : DB} : HO (execB C (.cons d b) s) N V B E = HO (exec C d s) (fun s => HO (execB C b s) N V B E) V B E := by
  simp only [execB]
  unfold HO
  cases exec C d s <;> rfl
theorem HO_if {t : Bool} {o o' : Out} : HO (if t then o else o') N V B E = condK t (HO o N V B E) (HO o' N V B E) := by cases t <;> simp [condK]
theorem HO_ite {c : Prop} [Decidable c] {o : Out} : HO (if c then o else .stuck) N V B E = (c ∧ HO o N V B E) := by
  by_cases h : c <;> simp [h, HO_stuck]
theorem x_asg {i : Nat} {e : DE} : HO (exec C (.asg i e) s) N V B E = H (evalE C e s) (fun r s => stK (s.put i r) N) E := by simp only [exec, HO_out, HO_nx, stK]
theorem x_expr {e : DE} : HO (exec C (.expr e) s) N V B E = H (evalE C e s) (fun r s => N s) E := by simp only [exec, HO_out, HO_nx]
theorem x_ret {e : DE} : HO (exec C (.ret e) s) N V B E = H (evalE C e s) (fun r s => V r s) E := by simp only [exec, HO_out, HO_rt]
theorem x_ite {c : DE} {a b : DB} : HO (exec C (.ite c a b) s) N V B E = H (evalE C c s) (fun x s => optK (blOf x.1) s fun t s => condK t (HO (execB C a s) N V B E) (HO (execB C b s) N V B E)) E := by
  simp only [exec, HO_out, H_asBl, HO_if]
theorem x_pass : HO (exec C .pass s) N V B E = N s := by simp only [exec, HO_nx]
theorem x_brk : HO (exec C .brk s) N V B E = B s := by simp only [exec, HO_bk]
theorem x_raise {k : Nat} : HO (exec C (.raise k) s) N V B E = E k s := by simp only [exec, HO_exc]
theorem x_par {is : List Nat} {es : DEs} : HO (exec C (.par is es) s) N V B E = H (evalEs C es s) (fun rs s => rs.length = is.length ∧ stK ((is.zip rs).foldl (fun s p => s.set p.1 (clOf p.2.1 p.2.2)) (s.fzs rs)) N) E := by
  simp only [exec, HO_out, HO_ite, HO_nx, stK]
theorem x_asgT {is : List Nat} {e : DE} : HO (exec C (.asgT is e) s) N V B E = H (evalE C e s) (fun r s => optK (bindT (.tp is) r.1 (s.fz r.2)) s fun s _ => N s) E := by
  simp only [exec, HO_out]
  congr; funext r s
  cases bindT (.tp is) r.1 (s.fz r.2) with
  | none => exact HO_stuck
  | some s => exact HO_nx
theorem x_append {i : Nat} {e : DE} : HO (exec C (.append i e) s) N V B E = ((match s.ρ[i]? with
    | some (.own (.lst _)) => true
    | _ => false) = true ∧ H (evalE C e s) (fun r s => stK (s.fz r.2) fun s => HO (appendS i r.1 s) N V B E) E) := by
  simp only [exec]
  cases q : s.ρ[i]? with
  | none => simp [HO_stuck]
  | some c =>
    cases c with
    | own d =>
      cases d with
      | lst ds =>
        show HO ((evalE C e s).out _) N V B E = _
        rw [HO_out]
        simp [stK]
      | _ => simp [HO_stuck]
    | _ => simp [HO_stuck]
theorem x_extend {i : Nat} {e : DE} : HO (exec C (.extend i e) s) N V B E = ((match s.ρ[i]? with
    | some (.own (.lst _)) => true
    | _ => false) = true ∧ H (evalE C e s) (fun r s => HO (extendS i r.1 s) N V B E) E) := by
  simp only [exec]
  cases q : s.ρ[i]? with
  | none => simp [HO_stuck]
  | some c =>
    cases c with
    | own d =>
      cases d with
      | lst ds =>
        show HO ((evalE C e s).out _) N V B E = _
        rw [HO_out]
        simp [stK]
      | _ => simp [HO_stuck]
    | _ => simp [HO_stuck]
theorem x_setix {i : Nat} {j e : DE} : HO (exec C (.setix i j e) s) N V B E = ((match s.ρ[i]? with
    | some (.own _) => true
    | _ => false) = true ∧ H (evalE C e s) (fun r s => stK (s.fz r.2) fun s => H (evalE C j s) (fun x s => HO (setS i x.1 r.1 s) N V B E) E) E) := by
  simp only [exec]
  cases q : s.ρ[i]? with
  | none => simp [HO_stuck]
  | some c =>
    cases c with
    | own d =>
      show HO ((evalE C e s).out _) N V B E = _
      simp only [HO_out]
      simp [stK]
    | _ => simp [HO_stuck]
theorem run_s {n k : Nat} {ds : List D} {w : List WObj} {f : FD} (hT : T[k]? = some f) (hl : ds.length = f.ar) : run T (n + 1) k ds w = finish (execB (run T n) f.body ⟨start f.N ds, w⟩) := by
  simp only [run, hT]
  rw [if_pos hl]
/-- a def's result by the reading of its body -/
theorem run_ok {n k : Nat} {ds : List D} {w : List WObj} {f : FD} {r : CRes} (hT : T[k]? = some f) (hl : ds.length = f.ar)
    (h : HO (execB (run T n) f.body ⟨start f.N ds, w⟩) (fun s => r = .ok .non false s.w) (fun v s => r = .ok v.1 (ownK s v.2) s.w) (fun _ => False) (fun k s => r = .exc k s.w)) : run T (n + 1) k ds w = r := by
  rw [run_s hT hl]
  cases q : execB (run T n) f.body ⟨start f.N ds, w⟩ <;> rw [q] at h
  · rw [HO_nx] at h; exact Eq.symm h
  · rw [HO_rt] at h; exact Eq.symm h
  · rw [HO_bk] at h; exact h.elim
  · rw [HO_ct] at h; exact h.elim
  · rw [HO_exc] at h; exact Eq.symm h
  · rw [HO_stuck] at h; exact h.elim
/-! states -/
theorem put_fro {d : D} {i : Nat} : S.put ⟨ρ, w⟩ i (d, .fro) = ⟨ρ.set i (.fro d), w⟩ := nr rfl
theorem put_fre {d : D} {i : Nat} : S.put ⟨ρ, w⟩ i (d, .fre) = ⟨ρ.set i (.own d), w⟩ := nr rfl
theorem put_bor {d : D} {i j : Nat} : S.put ⟨ρ, w⟩ i (d, .bor j) = (S.frz ⟨ρ, w⟩ j).set i (.fro d) := nr rfl
theorem fz_fro : S.fz s .fro = s := nr rfl
theorem fz_fre : S.fz s .fre = s := nr rfl
theorem fz_bor {j : Nat} : S.fz s (.bor j) = S.frz s j := nr rfl
theorem set_mk {i : Nat} {c : Cl} : S.set ⟨ρ, w⟩ i c = ⟨ρ.set i c, w⟩ := nr rfl
def frzC (ρ : List Cl) (w : List WObj) (i : Nat) : Option Cl → S
  | some (.own d) => ⟨ρ.set i (.fro d), w⟩
  | _ => ⟨ρ, w⟩
theorem frz_mk {i : Nat} : S.frz ⟨ρ, w⟩ i = frzC ρ w i ρ[i]? := by
  show (match ρ[i]? with
    | some (.own d) => (⟨ρ, w⟩ : S).set i (.fro d)
    | _ => ⟨ρ, w⟩) = _
  unfold frzC
  cases ρ[i]? with
  | none => rfl
  | some c => cases c <;> rfl
theorem frzC_own {i : Nat} {d : D} : frzC ρ w i (some (.own d)) = ⟨ρ.set i (.fro d), w⟩ := nr rfl
theorem frzC_fro {i : Nat} {d : D} : frzC ρ w i (some (.fro d)) = ⟨ρ, w⟩ := nr rfl
theorem fzs_nil : S.fzs s [] = s := nr rfl
theorem fzs_cons {r : Val} {rs : List Val} : S.fzs s (r :: rs) = (s.fz r.2).fzs rs := nr rfl
end
/-! data -/
theorem add_int {a b : Int} : binD .add (.int a) (.int b) = some (.int (a + b), .fro) := nr rfl
theorem add_lst {a b : List D} : binD .add (.lst a) (.lst b) = if a.length + b.length ≤ 16777216 then some (.lst (a ++ b), .fre) else none := nr rfl
theorem add_tup {a b : List D} : binD .add (.tup a) (.tup b) = if a.length + b.length ≤ 16777216 then some (.tup (a ++ b), .fro) else none := nr rfl
theorem sub_int {a b : Int} : binD .sub (.int a) (.int b) = some (.int (a - b), .fro) := nr rfl
theorem mul_int {a b : Int} : binD .mul (.int a) (.int b) = if (-18446744073709551616 < a ∧ a < 18446744073709551616) ∨ (-18446744073709551616 < b ∧ b < 18446744073709551616) then some (.int (a * b), .fro) else none := nr rfl
theorem fdiv_int {a b : Int} : binD .fdiv (.int a) (.int b) = if 0 < b ∧ b < 1073741824 then some (.int (a / b), .fro) else none := nr rfl
theorem md_int {a b : Int} : binD .md (.int a) (.int b) = if 0 < b then some (.int (a % b), .fro) else none := nr rfl
theorem lt_int {a b : Int} : cmpD .lt (.int a) (.int b) = some (decide (a < b)) := nr rfl
theorem le_int {a b : Int} : cmpD .le (.int a) (.int b) = some (decide (a ≤ b)) := nr rfl
theorem gt_int {a b : Int} : cmpD .gt (.int a) (.int b) = some (decide (b < a)) := nr rfl
theorem ge_int {a b : Int} : cmpD .ge (.int a) (.int b) = some (decide (b ≤ a)) := nr rfl
theorem eq_any {a b : D} : cmpD .eq a b = eqD a b := by cases a <;> cases b <;> rfl
theorem ne_any {a b : D} : cmpD .ne a b = (eqD a b).map (! ·) := by cases a <;> cases b <;> rfl
theorem blOf_bl {b : Bool} : blOf (.bl b) = some b := nr rfl
theorem intOf_int {i : Int} : intOf (.int i) = some i := nr rfl
theorem len_lst {xs : List D} : biD .len [.lst xs] = some (.int xs.length, .fro) := nr rfl
theorem len_tup {xs : List D} : biD .len [.tup xs] = some (.int xs.length, .fro) := nr rfl
theorem len_scr {xs : List Int} : biD .len [.scr xs] = some (.int xs.length, .fro) := nr rfl
theorem ix_lst {xs : List D} {i : Int} : ixD (.lst xs) (.int i) = atI xs i := nr rfl
theorem ix_tup {xs : List D} {i : Int} : ixD (.tup xs) (.int i) = atI xs i := nr rfl
theorem ix_scr {xs : List Int} {i : Int} : ixD (.scr xs) (.int i) = (atI xs i).map D.int := nr rfl
theorem imm_int {i : Int} : imm (.int i) = true := by simp [imm]
theorem imm_bl {i : Bool} : imm (.bl i) = true := by simp [imm]
theorem imm_non : imm .non = true := by simp [imm]
theorem imm_str {x : Str} : imm (.str x) = true := by simp [imm]
theorem imm_lst {x : List D} : imm (.lst x) = false := by simp [imm]
theorem imm_tup {x : List D} : imm (.tup x) = imms x := by simp [imm]
theorem imms_nil : imms [] = true := by simp [imms]
theorem imms_cons {x : D} {xs : List D} : imms (x :: xs) = (imm x && imms xs) := by simp [imms]
theorem own_fro {s : S} : ownK s .fro = false := nr rfl
theorem own_fre {s : S} : ownK s .fre = true := nr rfl
def ownB : Option Cl → Bool
  | some (.own _) => true
  | _ => false
theorem own_bor {s : S} {i : Nat} : ownK s (.bor i) = ownB s.ρ[i]? := by
  simp only [ownK]
  cases s.ρ[i]? with
  | none => rfl
  | some c => cases c <;> rfl
theorem ownB_own {d : D} : ownB (some (.own d)) = true := nr rfl
theorem ownB_fro {d : D} : ownB (some (.fro d)) = false := nr rfl
theorem clOf_fro {d : D} : clOf d .fro = .fro d := nr rfl
theorem clOf_fre {d : D} : clOf d .fre = .own d := nr rfl
theorem clOf_bor {d : D} {i : Nat} : clOf d (.bor i) = .fro d := nr rfl
theorem isNon_non : isNon .non = true := nr rfl
theorem isNon_int {i : Int} : isNon (.int i) = false := nr rfl
theorem isNon_tup {i : List D} : isNon (.tup i) = false := nr rfl
theorem isNon_lst {i : List D} : isNon (.lst i) = false := nr rfl
theorem isNon_str {i : Str} : isNon (.str i) = false := nr rfl
theorem slice_lst {xs : List D} {l h : Option Int} : sliceD (.lst xs) l h = some (.lst (cutD xs l h), .fre) := nr rfl
theorem slice_tup {xs : List D} {l h : Option Int} : sliceD (.tup xs) l h = some (.tup (cutD xs l h), .fro) := nr rfl
theorem list_lst {xs : List D} : biD .list [.lst xs] = some (.lst xs, .fre) := nr rfl
theorem list_tup {xs : List D} : biD .list [.tup xs] = some (.lst xs, .fre) := nr rfl
theorem tuple_lst {xs : List D} : biD .tuple [.lst xs] = some (.tup xs, .fro) := nr rfl
theorem tuple_tup {xs : List D} : biD .tuple [.tup xs] = some (.tup xs, .fro) := nr rfl
theorem sum_lst {xs : List D} : biD .sum [.lst xs] = (intsOf xs).map fun ns => (.int ns.sum, .fro) := nr rfl
theorem all_lst {xs : List D} : biD .all [.lst xs] = (blsOf xs).map fun ns => (.bl (ns.all id), .fro) := nr rfl
theorem append_own {i : Nat} {d : D} {s : S} : appendS i d s = match s.ρ[i]? with
  | some (.own (.lst ds)) => if ds.length < LEN then .nx (s.set i (.own (.lst (ds ++ [d])))) else .stuck
  | _ => .stuck := rfl
def appK (c : Option Cl) (i : Nat) (d : D) (s : S) (N : S → Prop) : Prop := match c with
  | some (.own (.lst ds)) => ds.length < LEN ∧ stK (s.set i (.own (.lst (ds ++ [d])))) N
  | _ => False
theorem appK_congr {c c' : Option Cl} (h : c = c') {i : Nat} {d : D} {s : S} {N : S → Prop} : appK c i d s N = appK c' i d s N := by rw [h]
theorem HO_append {i : Nat} {d : D} {s : S} {N : S → Prop} {V : Val → S → Prop} {B : S → Prop} {E : Nat → S → Prop} : HO (appendS i d s) N V B E = appK s.ρ[i]? i d s N := by
  simp only [appendS, appK]
  cases s.ρ[i]? with
  | none => exact HO_stuck
  | some c =>
    cases c with
    | own d =>
      cases d with
      | lst ds => rw [HO_ite, HO_nx]; rfl
      | _ => exact HO_stuck
    | _ => exact HO_stuck
theorem appK_own {i : Nat} {ds : List D} {d : D} {s : S} {N : S → Prop} : appK (some (.own (.lst ds))) i d s N = (ds.length < 16777216 ∧ stK (s.set i (.own (.lst (ds ++ [d])))) N) := nr rfl
def isOwnL : Option Cl → Bool
  | some (.own (.lst _)) => true
  | _ => false
theorem isOwnL_own {ds : List D} : isOwnL (some (.own (.lst ds))) = true := nr rfl
theorem x_append' {C : Call} {s : S} {N : S → Prop} {V : Val → S → Prop} {B : S → Prop} {E : Nat → S → Prop} {i : Nat} {e : DE} : HO (exec C (.append i e) s) N V B E = (isOwnL s.ρ[i]? = true ∧ H (evalE C e s) (fun r s => stK (s.fz r.2) fun s => appK s.ρ[i]? i r.1 s N) E) := by
  rw [x_append]
  simp only [HO_append]
  congr 2
theorem obind {α β : Type} {a : α} {f : α → Option β} : (some a).bind f = f a := nr rfl
theorem omap {α β : Type} {a : α} {f : α → β} : (some a).map f = some (f a) := nr rfl
theorem run_w {n k : Nat} {ds : List D} {w : List WObj} {f : FD} {r : CRes} (hT : T[k]? = some f) (hl : ds.length = f.ar) (ρ : List Cl) (hs : start f.N ds = ρ)
    (h : HO (execB (run T n) f.body ⟨ρ, w⟩) (fun s => r = .ok .non false s.w) (fun v s => r = .ok v.1 (ownK s v.2) s.w) (fun _ => False) (fun k s => r = .exc k s.w)) : run T (n + 1) k ds w = r := run_ok hT hl (by rw [hs]; exact h)
end DL.Z

/-! W1: forward reading of the deep terms: H for what is evaluated, HO for statements; what follows is kept from being looked into. -/
namespace DL
open PySem L2
/-- a mark that keeps what it speaks of from being looked into -/
inductive Dum {α : Type u} (a : α) : Type
  | u
@[irreducible] def H {α : Type} (r : R α) (Q : α → S → Prop) (E : Nat → S → Prop) (u : Dum (Q, E) := .u) : Prop := Z.H r Q E
@[irreducible] def HO (o : Out) (N : S → Prop) (V : Val → S → Prop) (B : S → Prop) (E : Nat → S → Prop) (u : Dum (N, V, B, E) := .u) : Prop := Z.HO o N V B E
def optK {α : Type} (o : Option α) (s : S) (Q : α → S → Prop) (u : Dum Q := .u) : Prop := Z.optK o s Q
def stK (s : S) (Q : S → Prop) (u : Dum Q := .u) : Prop := Z.stK s Q
def condK (t : Bool) (A B : Prop) (u : Dum (A, B) := .u) : Prop := Z.condK t A B
def varK (c : Option Cl) (i : Nat) (s : S) (Q : Val → S → Prop) (u : Dum Q := .u) : Prop := Z.varK c i s Q
def callR (c : CRes) (rs : List Val) (s : S) (Q : Val → S → Prop) (E : Nat → S → Prop) (u : Dum (Q, E) := .u) : Prop := Z.callR c rs s Q E
def appK (c : Option Cl) (i : Nat) (d : D) (s : S) (N : S → Prop) (u : Dum N := .u) : Prop := Z.appK c i d s N
theorem H_eq {α : Type} (r : R α) (Q : α → S → Prop) (E : Nat → S → Prop) : H r Q E = Z.H r Q E := by unfold H; rfl
theorem HO_eq (o : Out) (N : S → Prop) (V : Val → S → Prop) (B : S → Prop) (E : Nat → S → Prop) : HO o N V B E = Z.HO o N V B E := by unfold HO; rfl
theorem optK_eq {α : Type} (o : Option α) (s : S) (Q : α → S → Prop) : optK o s Q = Z.optK o s Q := Z.nr rfl
theorem stK_eq (s : S) (Q : S → Prop) : stK s Q = Z.stK s Q := Z.nr rfl
theorem condK_eq (t : Bool) (A B : Prop) : condK t A B = Z.condK t A B := Z.nr rfl
theorem varK_eq (c : Option Cl) (i : Nat) (s : S) (Q : Val → S → Prop) : varK c i s Q = Z.varK c i s Q := Z.nr rfl
theorem callR_eq (c : CRes) (rs : List Val) (s : S) (Q : Val → S → Prop) (E : Nat → S → Prop) : callR c rs s Q E = Z.callR c rs s Q E := Z.nr rfl
theorem appK_eq (c : Option Cl) (i : Nat) (d : D) (s : S) (N : S → Prop) : appK c i d s N = Z.appK c i d s N := Z.nr rfl
local macro_rules | `(tactic| walk_at "raw") => `(tactic| simp only [DL.H_eq, DL.HO_eq, DL.optK_eq, DL.stK_eq, DL.condK_eq, DL.varK_eq, DL.callR_eq, DL.appK_eq])
theorem nr {α : Sort u} {a b : α} (h : a = b) : a = b := h
section
variable {α β : Type} {C : Call} {s : S} {Q : Val → S → Prop} {E : Nat → S → Prop} {ρ : List Cl} {w : List WObj}
theorem H_ok {a : α} {Q : α → S → Prop} : H (.ok a s) Q E = Q a s := by
  walk_at "raw"; exact Z.H_ok
theorem H_exc {k : Nat} {Q : α → S → Prop} : H (.exc k s) Q E = E k s := by
  walk_at "raw"; exact Z.H_exc
theorem H_stuck {Q : α → S → Prop} : H .stuck Q E = False := by
  walk_at "raw"; exact Z.H_stuck
theorem H_bind {r : R α} {f : α → S → R β} {Q : β → S → Prop} : H (r.bind f) Q E = H r (fun a s => H (f a s) Q E) E := by
  walk_at "raw"; exact Z.H_bind
theorem H_opt {o : Option α} {Q : α → S → Prop} : H (opt o s) Q E = optK o s Q := by
  walk_at "raw"; exact Z.H_opt
theorem optK_some {a : α} {Q : α → S → Prop} : optK (some a) s Q = Q a s := by
  walk_at "raw"; exact Z.optK_some
theorem optK_ite {c : Prop} [Decidable c] {a : α} {Q : α → S → Prop} : optK (if c then some a else none) s Q = (c ∧ Q a s) := by
  walk_at "raw"; exact Z.optK_ite
theorem stK_mk {Q : S → Prop} : stK ⟨ρ, w⟩ Q = Q ⟨ρ, w⟩ := by
  walk_at "raw"; exact Z.stK_mk
theorem condK_true {A B : Prop} : condK true A B = A := by
  walk_at "raw"; exact Z.condK_true
theorem condK_false {A B : Prop} : condK false A B = B := by
  walk_at "raw"; exact Z.condK_false
theorem condK_dec {p : Prop} [Decidable p] {A B : Prop} : condK (decide p) A B = ((p → A) ∧ (¬p → B)) := by
  walk_at "raw"; exact Z.condK_dec
theorem condK_not {t : Bool} {A B : Prop} : condK (!t) A B = condK t B A := by
  walk_at "raw"; exact Z.condK_not
theorem varK_fro {d : D} {i : Nat} : varK (some (.fro d)) i s Q = Q (d, .fro) s := by
  walk_at "raw"; exact Z.varK_fro
theorem varK_own {d : D} {i : Nat} : varK (some (.own d)) i s Q = Q (d, .bor i) s := by
  walk_at "raw"; exact Z.varK_own
theorem callR_ok {d : D} {own : Bool} {rs : List Val} : callR (.ok d own w) rs s Q E = stK { (if imm d then s else s.fzs rs) with w := w } fun s => Q (d, if own then .fre else .fro) s := by
  walk_at "raw"; exact Z.callR_ok
theorem callR_exc {k : Nat} {rs : List Val} : callR (.exc k w) rs s Q E = stK { s with w := w } fun s => E k s := by
  walk_at "raw"; exact Z.callR_exc
theorem e_var {i : Nat} : H (evalE C (.var i) s) Q E = varK s.ρ[i]? i s Q := by
  walk_at "raw"; exact Z.e_var
theorem e_glob {x : Str} {n : Int} : H (evalE C (.glob x n) s) Q E = Q (.int n, .fro) s := by
  walk_at "raw"; exact Z.e_glob
theorem e_int {n : Int} : H (evalE C (.int n) s) Q E = Q (.int n, .fro) s := by
  walk_at "raw"; exact Z.e_int
theorem e_bl {n : Bool} : H (evalE C (.bl n) s) Q E = Q (.bl n, .fro) s := by
  walk_at "raw"; exact Z.e_bl
theorem e_str {n : Str} : H (evalE C (.str n) s) Q E = Q (.str n, .fro) s := by
  walk_at "raw"; exact Z.e_str
theorem e_non : H (evalE C .non s) Q E = Q (.non, .fro) s := by
  walk_at "raw"; exact Z.e_non
theorem e_bin {o : BO} {a b : DE} : H (evalE C (.bin o a b) s) Q E = H (evalE C a s) (fun x s => H (evalE C b s) (fun y s => optK (binD o x.1 y.1) s Q) E) E := by
  walk_at "raw"; exact Z.e_bin
theorem e_neg {a : DE} : H (evalE C (.neg a) s) Q E = H (evalE C a s) (fun x s => optK ((intOf x.1).map fun i => ((.int (-i), .fro) : Val)) s Q) E := by
  walk_at "raw"; exact Z.e_neg
theorem H_asBl {r : R Val} {Q : Bool → S → Prop} : H (asBl r) Q E = H r (fun x s => optK (blOf x.1) s Q) E := by
  walk_at "raw"; exact Z.H_asBl
theorem e_not {a : DE} : H (evalE C (.not a) s) Q E = H (evalE C a s) (fun x s => optK (blOf x.1) s fun b s => Q (.bl (!b), .fro) s) E := by
  walk_at "raw"; exact Z.e_not
theorem e_and {es : DEs} : H (evalE C (.and es) s) Q E = H (evalAnd C es s) Q E := by
  walk_at "raw"; exact Z.e_and
theorem e_or {es : DEs} : H (evalE C (.or es) s) Q E = H (evalOr C es s) Q E := by
  walk_at "raw"; exact Z.e_or
theorem e_and1 {a : DE} : H (evalAnd C (.cons a .nil) s) Q E = H (evalE C a s) Q E := by
  walk_at "raw"; exact Z.e_and1
theorem e_or1 {a : DE} : H (evalOr C (.cons a .nil) s) Q E = H (evalE C a s) Q E := by
  walk_at "raw"; exact Z.e_or1
theorem H_if {t : Bool} {r r' : R α} {Q : α → S → Prop} : H (if t then r else r') Q E = condK t (H r Q E) (H r' Q E) := by
  walk_at "raw"; exact Z.H_if
theorem e_and2 {a b : DE} {r : DEs} : H (evalAnd C (.cons a (.cons b r)) s) Q E = H (evalE C a s) (fun x s => optK (blOf x.1) s fun t s => condK t (H (evalAnd C (.cons b r) s) Q E) (Q (.bl false, .fro) s)) E := by
  walk_at "raw"; exact Z.e_and2
theorem e_or2 {a b : DE} {r : DEs} : H (evalOr C (.cons a (.cons b r)) s) Q E = H (evalE C a s) (fun x s => optK (blOf x.1) s fun t s => condK t (Q (.bl true, .fro) s) (H (evalOr C (.cons b r) s) Q E)) E := by
  walk_at "raw"; exact Z.e_or2
theorem e_cmp {o : CO} {a b : DE} : H (evalE C (.cmp o a b) s) Q E = H (evalE C a s) (fun x s => H (evalE C b s) (fun y s => optK (cmpD o x.1 y.1) s fun b s => Q (.bl b, .fro) s) E) E := by
  walk_at "raw"; exact Z.e_cmp
theorem e_chain {o1 o2 : CO} {a b c : DE} : H (evalE C (.chain o1 o2 a b c) s) Q E = H (evalE C a s) (fun x s => H (evalE C b s) (fun y s => optK (cmpD o1 x.1 y.1) s fun t s =>
    condK t (H (evalE C c s) (fun z s => optK (cmpD o2 y.1 z.1) s fun b s => Q (.bl b, .fro) s) E) (Q (.bl false, .fro) s)) E) E := by
  walk_at "raw"; exact Z.e_chain
theorem e_isN {n : Bool} {a : DE} : H (evalE C (.isN n a) s) Q E = H (evalE C a s) (fun x s => Q (.bl (isNon x.1 != n), .fro) s) E := by
  walk_at "raw"; exact Z.e_isN
theorem e_isB {n b : Bool} {a : DE} : H (evalE C (.isB n a b) s) Q E = H (evalE C a s) (fun x s => optK (blOf x.1) s fun t s => Q (.bl (if n then !decide (t = b) else decide (t = b)), .fro) s) E := by
  walk_at "raw"; exact Z.e_isB
theorem e_ife {c a b : DE} : H (evalE C (.ife c a b) s) Q E = H (evalE C c s) (fun x s => optK (blOf x.1) s fun t s => condK t (H (evalE C a s) Q E) (H (evalE C b s) Q E)) E := by
  walk_at "raw"; exact Z.e_ife
theorem H_ite {c : Prop} [Decidable c] {r : R α} {Q : α → S → Prop} : H (if c then r else .stuck) Q E = (c ∧ H r Q E) := by
  walk_at "raw"; exact Z.H_ite
theorem e_tup {es : DEs} : H (evalE C (.tup es) s) Q E = H (evalFz C es s) (fun ds s => ds.length ≤ 1000 ∧ Q (.tup ds, .fro) s) E := by
  walk_at "raw"; exact Z.e_tup
theorem e_lst {es : DEs} : H (evalE C (.lst es) s) Q E = H (evalFz C es s) (fun ds s => ds.length ≤ 1000 ∧ Q (.lst ds, .fre) s) E := by
  walk_at "raw"; exact Z.e_lst
theorem e_dic0 : H (evalE C .dic0 s) Q E = Q (.dic [], .fre) s := by
  walk_at "raw"; exact Z.e_dic0
theorem e_fz0 {Q : List D → S → Prop} : H (evalFz C .nil s) Q E = Q [] s := by
  walk_at "raw"; exact Z.e_fz0
theorem e_fz {a : DE} {r : DEs} {Q : List D → S → Prop} : H (evalFz C (.cons a r) s) Q E = H (evalE C a s) (fun x s => stK (s.fz x.2) fun s => H (evalFz C r s) (fun xs s => Q (x.1 :: xs) s) E) E := by
  walk_at "raw"; exact Z.e_fz
theorem e_es0 {Q : List Val → S → Prop} : H (evalEs C .nil s) Q E = Q [] s := by
  walk_at "raw"; exact Z.e_es0
theorem e_es {a : DE} {r : DEs} {Q : List Val → S → Prop} : H (evalEs C (.cons a r) s) Q E = H (evalE C a s) (fun x s => H (evalEs C r s) (fun xs s => Q (x :: xs) s) E) E := by
  walk_at "raw"; exact Z.e_es
theorem e_ix {a i : DE} : H (evalE C (.ix a i) s) Q E = H (evalE C a s) (fun x s => H (evalE C i s) (fun y s => optK (ixD x.1 y.1) s fun d s => Q (d, .fro) s) E) E := by
  walk_at "raw"; exact Z.e_ix
theorem e_slice {a : DE} {lo hi : DO} : H (evalE C (.slice a lo hi) s) Q E = H (evalE C a s) (fun x s => H (evalO C lo s) (fun l s => H (evalO C hi s) (fun h s => optK (sliceD x.1 l h) s Q) E) E) E := by
  walk_at "raw"; exact Z.e_slice
theorem e_o0 {Q : Option Int → S → Prop} : H (evalO C .none s) Q E = Q none s := by
  walk_at "raw"; exact Z.e_o0
theorem e_o {a : DE} {Q : Option Int → S → Prop} : H (evalO C (.some a) s) Q E = H (evalE C a s) (fun x s => optK ((intOf x.1).map some) s Q) E := by
  walk_at "raw"; exact Z.e_o
theorem e_bi {b : BI} {es : DEs} : H (evalE C (.bi b es) s) Q E = H (evalEs C es s) (fun rs s => optK (biD b (rs.map (·.1))) s Q) E := by
  walk_at "raw"; exact Z.e_bi
theorem e_isi {a : DE} {t : TY} : H (evalE C (.isi a t) s) Q E = H (evalE C a s) (fun x s => optK (isiD x.1 t) s fun b s => Q (.bl b, .fro) s) E := by
  walk_at "raw"; exact Z.e_isi
theorem e_meth {m : MT} {a : DE} {es : DEs} : H (evalE C (.meth m a es) s) Q E = H (evalE C a s) (fun x s => recv m x.1 = true ∧ H (evalFz C es s) (fun ds s => optK (methD m x.1 ds) s fun d s => Q (d, .fro) s) E) E := by
  walk_at "raw"; exact Z.e_meth
theorem e_call {k : Nat} {es : DEs} : H (evalE C (.call k es) s) Q E = H (evalEs C es s) (fun rs s => callR (C k (rs.map (·.1)) s.w) rs s Q E) E := by
  walk_at "raw"; exact Z.e_call
theorem e_revs {a : DE} : H (evalE C (.revs a) s) Q E = H (evalE C a s) (fun x s => optK (match x.1 with
    | .lst ds => some ((.lst ds.reverse, .fre) : Val)
    | _ => none) s Q) E := by
  walk_at "raw"; exact Z.e_revs
theorem e_orT {a b : DE} : H (evalE C (.orT a b) s) Q E = H (evalE C a s) (fun x s => optK (truD x.1) s fun t s => condK t (Q x s) (H (evalE C b s) Q E)) E := by
  walk_at "raw"; exact Z.e_orT
theorem e_setf {b : Bool} {a : DE} : H (evalE C (.setf b a) s) Q E = H (evalE C a s) (fun x s => optK (setD b x.1) s Q) E := by
  walk_at "raw"; exact Z.e_setf
end

/-! statements -/
section
variable {α β : Type} {C : Call} {s : S} {N : S → Prop} {V : Val → S → Prop} {B : S → Prop} {E : Nat → S → Prop} {ρ : List Cl} {w : List WObj}
theorem HO_nx : HO (.nx s) N V B E = N s := by
  walk_at "raw"; exact Z.HO_nx
theorem HO_rt {r : Val} : HO (.rt r s) N V B E = V r s := by
  walk_at "raw"; exact Z.HO_rt
theorem HO_bk : HO (.bk s) N V B E = B s := by
  walk_at "raw"; exact Z.HO_bk
theorem HO_ct : HO (.ct s) N V B E = False := by
  walk_at "raw"; exact Z.HO_ct
theorem HO_exc {k : Nat} : HO (.exc k s) N V B E = E k s := by
  walk_at "raw"; exact Z.HO_exc
theorem HO_stuck : HO .stuck N V B E = False := by
  walk_at "raw"; exact Z.HO_stuck
theorem HO_out {r : R α} {f : α → S → Out} : HO (r.out f) N V B E = H r (fun a s => HO (f a s) N V B E) E := by
  walk_at "raw"; exact Z.HO_out
theorem x_nil : HO (execB C .nil s) N V B E = N s := by
  walk_at "raw"; exact Z.x_nil
theorem x_cons {d : DS} {b : DB} : HO (execB C (.cons d b) s) N V B E = HO (exec C d s) (fun s => HO (execB C b s) N V B E) V B E := by
  walk_at "raw"; exact Z.x_cons
theorem HO_if {t : Bool} {o o' : Out} : HO (if t then o else o') N V B E = condK t (HO o N V B E) (HO o' N V B E) := by
  walk_at "raw"; exact Z.HO_if
theorem HO_ite {c : Prop} [Decidable c] {o : Out} : HO (if c then o else .stuck) N V B E = (c ∧ HO o N V B E) := by
  walk_at "raw"; exact Z.HO_ite
theorem x_asg {i : Nat} {e : DE} : HO (exec C (.asg i e) s) N V B E = H (evalE C e s) (fun r s => stK (s.put i r) N) E := by
  walk_at "raw"; exact Z.x_asg
theorem x_expr {e : DE} : HO (exec C (.expr e) s) N V B E = H (evalE C e s) (fun r s => N s) E := by
  walk_at "raw"; exact Z.x_expr
theorem x_ret {e : DE} : HO (exec C (.ret e) s) N V B E = H (evalE C e s) (fun r s => V r s) E := by
  walk_at "raw"; exact Z.x_ret
theorem x_ite {c : DE} {a b : DB} : HO (exec C (.ite c a b) s) N V B E = H (evalE C c s) (fun x s => optK (blOf x.1) s fun t s => condK t (HO (execB C a s) N V B E) (HO (execB C b s) N V B E)) E := by
  walk_at "raw"; exact Z.x_ite
theorem x_pass : HO (exec C .pass s) N V B E = N s := by
  walk_at "raw"; exact Z.x_pass
theorem x_brk : HO (exec C .brk s) N V B E = B s := by
  walk_at "raw"; exact Z.x_brk
theorem x_raise {k : Nat} : HO (exec C (.raise k) s) N V B E = E k s := by
  walk_at "raw"; exact Z.x_raise
theorem x_par {is : List Nat} {es : DEs} : HO (exec C (.par is es) s) N V B E = H (evalEs C es s) (fun rs s => rs.length = is.length ∧ stK ((is.zip rs).foldl (fun s p => s.set p.1 (clOf p.2.1 p.2.2)) (s.fzs rs)) N) E := by
  walk_at "raw"; exact Z.x_par
theorem x_asgT {is : List Nat} {e : DE} : HO (exec C (.asgT is e) s) N V B E = H (evalE C e s) (fun r s => optK (bindT (.tp is) r.1 (s.fz r.2)) s fun s _ => N s) E := by
  walk_at "raw"; exact Z.x_asgT
theorem x_append {i : Nat} {e : DE} : HO (exec C (.append i e) s) N V B E = ((match s.ρ[i]? with
    | some (.own (.lst _)) => true
    | _ => false) = true ∧ H (evalE C e s) (fun r s => stK (s.fz r.2) fun s => HO (appendS i r.1 s) N V B E) E) := by
  walk_at "raw"; exact Z.x_append
theorem x_extend {i : Nat} {e : DE} : HO (exec C (.extend i e) s) N V B E = ((match s.ρ[i]? with
    | some (.own (.lst _)) => true
    | _ => false) = true ∧ H (evalE C e s) (fun r s => HO (extendS i r.1 s) N V B E) E) := by
  walk_at "raw"; exact Z.x_extend
theorem x_setix {i : Nat} {j e : DE} : HO (exec C (.setix i j e) s) N V B E = ((match s.ρ[i]? with
    | some (.own _) => true
    | _ => false) = true ∧ H (evalE C e s) (fun r s => stK (s.fz r.2) fun s => H (evalE C j s) (fun x s => HO (setS i x.1 r.1 s) N V B E) E) E) := by
  walk_at "raw"; exact Z.x_setix
theorem run_s {n k : Nat} {ds : List D} {w : List WObj} {f : FD} (hT : T[k]? = some f) (hl : ds.length = f.ar) : run T (n + 1) k ds w = finish (execB (run T n) f.body ⟨start f.N ds, w⟩) := by
  simp only [run, hT]
  rw [if_pos hl]
/-- a def's result by the reading of its body -/
theorem run_ok {n k : Nat} {ds : List D} {w : List WObj} {f : FD} {r : CRes} (hT : T[k]? = some f) (hl : ds.length = f.ar)
    (h : HO (execB (run T n) f.body ⟨start f.N ds, w⟩) (fun s => r = .ok .non false s.w) (fun v s => r = .ok v.1 (ownK s v.2) s.w) (fun _ => False) (fun k s => r = .exc k s.w)) : run T (n + 1) k ds w = r := by
  rw [HO_eq] at h
  exact Z.run_ok hT hl h
/-! states -/
theorem put_fro {d : D} {i : Nat} : S.put ⟨ρ, w⟩ i (d, .fro) = ⟨ρ.set i (.fro d), w⟩ := nr rfl
theorem put_fre {d : D} {i : Nat} : S.put ⟨ρ, w⟩ i (d, .fre) = ⟨ρ.set i (.own d), w⟩ := nr rfl
theorem put_bor {d : D} {i j : Nat} : S.put ⟨ρ, w⟩ i (d, .bor j) = (S.frz ⟨ρ, w⟩ j).set i (.fro d) := nr rfl
theorem fz_fro : S.fz s .fro = s := nr rfl
theorem fz_fre : S.fz s .fre = s := nr rfl
theorem fz_bor {j : Nat} : S.fz s (.bor j) = S.frz s j := nr rfl
theorem set_mk {i : Nat} {c : Cl} : S.set ⟨ρ, w⟩ i c = ⟨ρ.set i c, w⟩ := nr rfl
def frzC (ρ : List Cl) (w : List WObj) (i : Nat) : Option Cl → S
  | some (.own d) => ⟨ρ.set i (.fro d), w⟩
  | _ => ⟨ρ, w⟩
theorem frz_mk {i : Nat} : S.frz ⟨ρ, w⟩ i = frzC ρ w i ρ[i]? := by
  show (match ρ[i]? with
    | some (.own d) => (⟨ρ, w⟩ : S).set i (.fro d)
    | _ => ⟨ρ, w⟩) = _
  unfold frzC
  cases ρ[i]? with
  | none => rfl
  | some c => cases c <;> rfl
theorem frzC_own {i : Nat} {d : D} : frzC ρ w i (some (.own d)) = ⟨ρ.set i (.fro d), w⟩ := nr rfl
theorem frzC_fro {i : Nat} {d : D} : frzC ρ w i (some (.fro d)) = ⟨ρ, w⟩ := nr rfl
theorem fzs_nil : S.fzs s [] = s := nr rfl
theorem fzs_cons {r : Val} {rs : List Val} : S.fzs s (r :: rs) = (s.fz r.2).fzs rs := nr rfl
end
/-! data -/
theorem add_int {a b : Int} : binD .add (.int a) (.int b) = some (.int (a + b), .fro) := nr rfl
theorem add_lst {a b : List D} : binD .add (.lst a) (.lst b) = if a.length + b.length ≤ 16777216 then some (.lst (a ++ b), .fre) else none := nr rfl
theorem add_tup {a b : List D} : binD .add (.tup a) (.tup b) = if a.length + b.length ≤ 16777216 then some (.tup (a ++ b), .fro) else none := nr rfl
theorem sub_int {a b : Int} : binD .sub (.int a) (.int b) = some (.int (a - b), .fro) := nr rfl
theorem mul_int {a b : Int} : binD .mul (.int a) (.int b) = if (-18446744073709551616 < a ∧ a < 18446744073709551616) ∨ (-18446744073709551616 < b ∧ b < 18446744073709551616) then some (.int (a * b), .fro) else none := nr rfl
theorem fdiv_int {a b : Int} : binD .fdiv (.int a) (.int b) = if 0 < b ∧ b < 1073741824 then some (.int (a / b), .fro) else none := nr rfl
theorem md_int {a b : Int} : binD .md (.int a) (.int b) = if 0 < b then some (.int (a % b), .fro) else none := nr rfl
theorem lt_int {a b : Int} : cmpD .lt (.int a) (.int b) = some (decide (a < b)) := nr rfl
theorem le_int {a b : Int} : cmpD .le (.int a) (.int b) = some (decide (a ≤ b)) := nr rfl
theorem gt_int {a b : Int} : cmpD .gt (.int a) (.int b) = some (decide (b < a)) := nr rfl
theorem ge_int {a b : Int} : cmpD .ge (.int a) (.int b) = some (decide (b ≤ a)) := nr rfl
theorem eq_any {a b : D} : cmpD .eq a b = eqD a b := by cases a <;> cases b <;> rfl
theorem ne_any {a b : D} : cmpD .ne a b = (eqD a b).map (! ·) := by cases a <;> cases b <;> rfl
theorem blOf_bl {b : Bool} : blOf (.bl b) = some b := nr rfl
theorem intOf_int {i : Int} : intOf (.int i) = some i := nr rfl
theorem len_lst {xs : List D} : biD .len [.lst xs] = some (.int xs.length, .fro) := nr rfl
theorem len_tup {xs : List D} : biD .len [.tup xs] = some (.int xs.length, .fro) := nr rfl
theorem len_scr {xs : List Int} : biD .len [.scr xs] = some (.int xs.length, .fro) := nr rfl
theorem ix_lst {xs : List D} {i : Int} : ixD (.lst xs) (.int i) = atI xs i := nr rfl
theorem ix_tup {xs : List D} {i : Int} : ixD (.tup xs) (.int i) = atI xs i := nr rfl
theorem ix_scr {xs : List Int} {i : Int} : ixD (.scr xs) (.int i) = (atI xs i).map D.int := nr rfl
theorem imm_int {i : Int} : imm (.int i) = true := by simp [imm]
theorem imm_bl {i : Bool} : imm (.bl i) = true := by simp [imm]
theorem imm_non : imm .non = true := by simp [imm]
theorem imm_str {x : Str} : imm (.str x) = true := by simp [imm]
theorem imm_lst {x : List D} : imm (.lst x) = false := by simp [imm]
theorem imm_tup {x : List D} : imm (.tup x) = imms x := by simp [imm]
theorem imms_nil : imms [] = true := by simp [imms]
theorem imms_cons {x : D} {xs : List D} : imms (x :: xs) = (imm x && imms xs) := by simp [imms]
theorem own_fro {s : S} : ownK s .fro = false := nr rfl
theorem own_fre {s : S} : ownK s .fre = true := nr rfl
def ownB : Option Cl → Bool
  | some (.own _) => true
  | _ => false
theorem own_bor {s : S} {i : Nat} : ownK s (.bor i) = ownB s.ρ[i]? := by
  simp only [ownK]
  cases s.ρ[i]? with
  | none => rfl
  | some c => cases c <;> rfl
theorem ownB_own {d : D} : ownB (some (.own d)) = true := nr rfl
theorem ownB_fro {d : D} : ownB (some (.fro d)) = false := nr rfl
theorem clOf_fro {d : D} : clOf d .fro = .fro d := nr rfl
theorem clOf_fre {d : D} : clOf d .fre = .own d := nr rfl
theorem clOf_bor {d : D} {i : Nat} : clOf d (.bor i) = .fro d := nr rfl
theorem isNon_non : isNon .non = true := nr rfl
theorem isNon_int {i : Int} : isNon (.int i) = false := nr rfl
theorem isNon_tup {i : List D} : isNon (.tup i) = false := nr rfl
theorem isNon_lst {i : List D} : isNon (.lst i) = false := nr rfl
theorem isNon_str {i : Str} : isNon (.str i) = false := nr rfl
theorem slice_lst {xs : List D} {l h : Option Int} : sliceD (.lst xs) l h = some (.lst (cutD xs l h), .fre) := nr rfl
theorem slice_tup {xs : List D} {l h : Option Int} : sliceD (.tup xs) l h = some (.tup (cutD xs l h), .fro) := nr rfl
theorem list_lst {xs : List D} : biD .list [.lst xs] = some (.lst xs, .fre) := nr rfl
theorem list_tup {xs : List D} : biD .list [.tup xs] = some (.lst xs, .fre) := nr rfl
theorem tuple_lst {xs : List D} : biD .tuple [.lst xs] = some (.tup xs, .fro) := nr rfl
theorem tuple_tup {xs : List D} : biD .tuple [.tup xs] = some (.tup xs, .fro) := nr rfl
theorem sum_lst {xs : List D} : biD .sum [.lst xs] = (intsOf xs).map fun ns => (.int ns.sum, .fro) := nr rfl
theorem all_lst {xs : List D} : biD .all [.lst xs] = (blsOf xs).map fun ns => (.bl (ns.all id), .fro) := nr rfl
theorem append_own {i : Nat} {d : D} {s : S} : appendS i d s = match s.ρ[i]? with
  | some (.own (.lst ds)) => if ds.length < LEN then .nx (s.set i (.own (.lst (ds ++ [d])))) else .stuck
  | _ => .stuck := rfl
theorem HO_append {i : Nat} {d : D} {s : S} {N : S → Prop} {V : Val → S → Prop} {B : S → Prop} {E : Nat → S → Prop} : HO (appendS i d s) N V B E = appK s.ρ[i]? i d s N := by
  walk_at "raw"; exact Z.HO_append
theorem appK_own {i : Nat} {ds : List D} {d : D} {s : S} {N : S → Prop} : appK (some (.own (.lst ds))) i d s N = (ds.length < 16777216 ∧ stK (s.set i (.own (.lst (ds ++ [d])))) N) := by
  walk_at "raw"; exact Z.appK_own
def isOwnL : Option Cl → Bool
  | some (.own (.lst _)) => true
  | _ => false
theorem isOwnL_own {ds : List D} : isOwnL (some (.own (.lst ds))) = true := nr rfl
theorem x_append' {C : Call} {s : S} {N : S → Prop} {V : Val → S → Prop} {B : S → Prop} {E : Nat → S → Prop} {i : Nat} {e : DE} : HO (exec C (.append i e) s) N V B E = (isOwnL s.ρ[i]? = true ∧ H (evalE C e s) (fun r s => stK (s.fz r.2) fun s => appK s.ρ[i]? i r.1 s N) E) := by
  first
    | (walk_at "raw"; exact Z.x_append')
    | (walk_at "raw"; exact Z.x_append' ‹_› ‹_› ‹_›)
theorem obind {α β : Type} {a : α} {f : α → Option β} : (some a).bind f = f a := nr rfl
theorem omap {α β : Type} {a : α} {f : α → β} : (some a).map f = some (f a) := nr rfl
theorem run_w {n k : Nat} {ds : List D} {w : List WObj} {f : FD} {r : CRes} (hT : T[k]? = some f) (hl : ds.length = f.ar) (ρ : List Cl) (hs : start f.N ds = ρ)
    (h : HO (execB (run T n) f.body ⟨ρ, w⟩) (fun s => r = .ok .non false s.w) (fun v s => r = .ok v.1 (ownK s v.2) s.w) (fun _ => False) (fun k s => r = .exc k s.w)) : run T (n + 1) k ds w = r := by
  rw [HO_eq] at h
  exact Z.run_w hT hl ρ hs h
end DL

/-! W2: equality of data, items by place; comprehensions and loops, read forward. -/
namespace DL
open PySem L2
mutual
/-- data of depth at most n, without bools, dicts and the like -/
def nice : Nat → D → Bool
  | _, .non => true
  | _, .int _ => true
  | _, .str x => PyData.strOk x
  | 0, _ => false
  | n + 1, .lst xs => nices n xs
  | n + 1, .tup xs => nices n xs
  | _, _ => false
def nices : Nat → List D → Bool
  | _, [] => true
  | n, d :: ds => nice n d && nices n ds
end
mutual
theorem nice_ok : ∀ (n : Nat) (d : D), nice n d = true → plain d = true ∧ (toPy d).canLay0 = true ∧ (toPy d).depth ≤ n
  | n, .non, h => by simp [plain, toPy, PyData.canLay0, PyData.depth]
  | n, .int _, h => by simp [plain, toPy, PyData.canLay0, PyData.depth]
  | n, .str x, h => by
    have h : PyData.strOk x = true := by cases n <;> simpa [nice] using h
    simp [plain, toPy, PyData.canLay0, PyData.depth, h]
  | 0, .lst xs, h => by simp [nice] at h
  | 0, .tup xs, h => by simp [nice] at h
  | n + 1, .lst xs, h => by
    obtain ⟨a, b, c⟩ := nices_ok n xs (by simpa [nice] using h)
    simp [plain, toPy, PyData.canLay0, PyData.depth, a, b, c]
  | n + 1, .tup xs, h => by
    obtain ⟨a, b, c⟩ := nices_ok n xs (by simpa [nice] using h)
    simp [plain, toPy, PyData.canLay0, PyData.depth, a, b, c]
  | n, .bl _, h => by cases n <;> simp [nice] at h
  | n, .dic _, h => by cases n <;> simp [nice] at h
  | n, .obj _, h => by cases n <;> simp [nice] at h
  | n, .exc _, h => by cases n <;> simp [nice] at h
  | n, .fn _, h => by cases n <;> simp [nice] at h
  | n, .scr _, h => by cases n <;> simp [nice] at h
theorem nices_ok : ∀ (n : Nat) (ds : List D), nices n ds = true → plains ds = true ∧ PyData.canLayAll0 (toPys ds) = true ∧ PyData.depthAll (toPys ds) ≤ n
  | n, [], h => by simp [plains, toPys, PyData.canLayAll0, PyData.depthAll]
  | n, d :: ds, h => by
    have h : nice n d = true ∧ nices n ds = true := by simpa [nices] using h
    obtain ⟨a, b, c⟩ := nice_ok n d h.1
    obtain ⟨a', b', c'⟩ := nices_ok n ds h.2
    simp [plains, toPys, PyData.canLayAll0, PyData.depthAll, a, b, c, a', b', c']
    omega
end
theorem okPy_nice {n : Nat} {d : D} (h : nice n d = true) (hn : n ≤ 64) : okPy d = true := by
  obtain ⟨a, b, c⟩ := nice_ok n d h
  simp only [okPy, a, SeqAt.shaped, b, Bool.true_and, decide_eq_true_eq]
  omega
mutual
theorem eqv_nice : ∀ (n m : Nat) (x y : D), nice n x = true → nice m y = true → (PyData.eqv (toPy x) (toPy y) = true ↔ x = y)
  | n, m, .non, y, h, h' => by cases y <;> simp [toPy, PyData.eqv] <;> cases m <;> simp [nice] at h'
  | n, m, .int i, y, h, h' => by cases y <;> simp [toPy, PyData.eqv] <;> cases m <;> simp [nice] at h'
  | n, m, .str i, y, h, h' => by cases y <;> simp [toPy, PyData.eqv] <;> cases m <;> simp [nice] at h'
  | 0, m, .lst xs, y, h, h' => by simp [nice] at h
  | 0, m, .tup xs, y, h, h' => by simp [nice] at h
  | n + 1, m, .lst xs, y, h, h' => by
    cases y with
    | lst ys =>
      cases m with
      | zero => simp [nice] at h'
      | succ m =>
        have := eqvs_nice n m xs ys (by simpa [nice] using h) (by simpa [nice] using h')
        simpa [toPy, PyData.eqv] using this
    | _ => simp [toPy, PyData.eqv] <;> cases m <;> simp [nice] at h'
  | n + 1, m, .tup xs, y, h, h' => by
    cases y with
    | tup ys =>
      cases m with
      | zero => simp [nice] at h'
      | succ m =>
        have := eqvs_nice n m xs ys (by simpa [nice] using h) (by simpa [nice] using h')
        simpa [toPy, PyData.eqv] using this
    | _ => simp [toPy, PyData.eqv] <;> cases m <;> simp [nice] at h'
  | n, m, .bl _, y, h, h' => by cases n <;> simp [nice] at h
  | n, m, .dic _, y, h, h' => by cases n <;> simp [nice] at h
  | n, m, .obj _, y, h, h' => by cases n <;> simp [nice] at h
  | n, m, .exc _, y, h, h' => by cases n <;> simp [nice] at h
  | n, m, .fn _, y, h, h' => by cases n <;> simp [nice] at h
  | n, m, .scr _, y, h, h' => by cases n <;> simp [nice] at h
theorem eqvs_nice : ∀ (n m : Nat) (x y : List D), nices n x = true → nices m y = true → (PyData.eqvAll (toPys x) (toPys y) = true ↔ x = y)
  | n, m, [], [], h, h' => by simp [toPys, PyData.eqvAll]
  | n, m, [], _ :: _, h, h' => by simp [toPys, PyData.eqvAll]
  | n, m, _ :: _, [], h, h' => by simp [toPys, PyData.eqvAll]
  | n, m, a :: as, b :: bs, h, h' => by
    have h : nice n a = true ∧ nices n as = true := by simpa [nices] using h
    have h' : nice m b = true ∧ nices m bs = true := by simpa [nices] using h'
    have p := eqv_nice n m a b h.1 h'.1
    have q := eqvs_nice n m as bs h.2 h'.2
    simp only [toPys, PyData.eqvAll, Bool.and_eq_true, p, q, List.cons.injEq]
end
open Classical in
theorem eq_nice {n m : Nat} {x y : D} (h : nice n x = true) (h' : nice m y = true) (hn : n ≤ 64 := by decide) (hm : m ≤ 64 := by decide) : eqD x y = some (decide (x = y)) := by
  unfold eqD
  rw [okPy_nice h hn, okPy_nice h' hm]
  simp only [Bool.and_self, if_true, Option.some.injEq]
  have := eqv_nice n m x y h h'
  cases q : PyData.eqv (toPy x) (toPy y) with
  | true => exact (decide_eq_true (this.mp q)).symm
  | false => exact (decide_eq_false fun e => by rw [this.mpr e] at q; cases q).symm
theorem eq_int {a b : Int} : eqD (.int a) (.int b) = some (decide (a = b)) := by
  unfold eqD
  rw [okPy_nice (n := 0) (by simp [nice]) (by decide), okPy_nice (n := 0) (by simp [nice]) (by decide)]
  simp [toPy, PyData.eqv]
  rfl
theorem nices_ints (n : Nat) : ∀ ns : List Int, nices n (ns.map .int) = true
  | [] => by simp [nices]
  | a :: r => by simp [nices, nices_ints n r, nice]
theorem nice_lints {n : Nat} {ns : List Int} : nice (n + 1) (.lst (ns.map .int)) = true := by simp [nice, nices_ints]
theorem nice_tints {n : Nat} {ns : List Int} : nice (n + 1) (.tup (ns.map .int)) = true := by simp [nice, nices_ints]
theorem ints_inj {a b : List Int} : a.map D.int = b.map D.int ↔ a = b := ⟨fun h => List.map_inj_right (fun x y e => by cases e; rfl) |>.mp h, fun h => by rw [h]⟩
theorem eq_lints {a b : List Int} : eqD (.lst (a.map .int)) (.lst (b.map .int)) = some (decide (a = b)) := by
  rw [eq_nice (n := 1) (m := 1) nice_lints nice_lints]
  congr 1
  by_cases h : a = b <;> simp [h, ints_inj]
theorem toPys_ints : ∀ ns : List Int, toPys (ns.map .int) = ns.map PyData.int
  | [] => by simp [toPys]
  | a :: r => by simp [toPys, toPy, toPys_ints r]
theorem scr_eq_nil {ns : List Int} : eqD (.scr ns) (.lst []) = some (decide (ns = [])) := by
  have e : eqD (.scr ns) (.lst []) = eqD (.lst (ns.map .int)) (.lst ([].map .int)) := by
    unfold eqD okPy
    have h1 : toPy (.scr ns) = toPy (.lst (ns.map .int)) := by simp only [toPy, toPys_ints]
    have h2 : plain (.scr ns) = plain (.lst (ns.map .int)) := by rw [(nice_ok 1 _ nice_lints).1]; simp [plain]
    rw [h1, h2]
    rfl
  rw [e, eq_lints]
/-! items by place -/
theorem atI_nat {α : Type} {xs : List α} {i : Nat} (h : i < xs.length) : atI xs (i : Int) = xs[i]? := by
  unfold atI ixN
  rw [if_pos (by omega), if_pos (by omega)]
  simp
theorem atI_neg {α : Type} {xs : List α} {i : Nat} (h0 : 0 < i) (h : i ≤ xs.length) : atI xs (-(i : Int)) = xs[xs.length - i]? := by
  unfold atI ixN
  rw [if_neg (by omega), if_pos (by omega)]
  have : (-(i : Int) + xs.length).toNat = xs.length - i := by omega
  simp [this]
theorem S.ext' {s t : S} (h : ∀ i : Nat, s.ρ[i]? = t.ρ[i]?) (hw : s.w = t.w) : s = t := by
  obtain ⟨ρ, w⟩ := s
  obtain ⟨ρ', w'⟩ := t
  cases hw
  have : ρ = ρ' := List.ext_getElem? h
  subst this
  rfl
theorem S.wipe_back {s s' : S} {us : List Nat} (h : s'.wipe us = s.wipe us) : s'.back s us = s := by
  have hl : s'.ρ.length = s.ρ.length := by rw [← S.wipe_len s' us, ← S.wipe_len s us, h]
  refine S.ext' (fun i => ?_) (by rw [S.back_w, ← S.wipe_w s' us, h, S.wipe_w])
  obtain ⟨h1, h2⟩ := S.back_get s' s i us
  by_cases hi : i ∈ us
  · by_cases hn : i < s'.ρ.length
    · rw [h2 hi hn]
      rw [hl] at hn
      simp [List.getD, List.getElem?_eq_getElem hn]
    · rw [List.getElem?_eq_none (by rw [S.back_get.back_len]; omega), List.getElem?_eq_none (by omega)]
  · rw [h1 hi, ← (S.wipe_get s' i us).1 hi, h, (S.wipe_get s i us).1 hi]

theorem H_ext {α : Type} {r : R α} {Q Q' : α → S → Prop} {E : Nat → S → Prop} (h : ∀ a s, Q a s = Q' a s) : H r Q E = H r Q' E := by
  have e : Q = Q' := funext fun a => funext fun s => h a s
  subst e
  rfl
theorem stK_ext {s : S} {Q Q' : S → Prop} (h : ∀ s, Q s = Q' s) : stK s Q = stK s Q' := h s
theorem H_mono {α : Type} {r : R α} {Q Q' : α → S → Prop} {E E' : Nat → S → Prop} (h : H r Q E) (hq : ∀ a s, Q a s → Q' a s) (he : ∀ k s, E k s → E' k s) : H r Q' E' := by
  cases r with
  | ok a s => rw [H_ok] at h ⊢; exact hq a s h
  | exc k s => rw [H_exc] at h ⊢; exact he k s h
  | stuck => rw [H_stuck] at h; exact h.elim
theorem HO_mono {o : Out} {N N' : S → Prop} {V V' : Val → S → Prop} {B B' : S → Prop} {E E' : Nat → S → Prop} (h : HO o N V B E) (hn : ∀ s, N s → N' s) (hv : ∀ v s, V v s → V' v s) (hb : ∀ s, B s → B' s) (he : ∀ k s, E k s → E' k s) : HO o N' V' B' E' := by
  cases o with
  | nx s => rw [HO_nx] at h ⊢; exact hn s h
  | rt r s => rw [HO_rt] at h ⊢; exact hv r s h
  | bk s => rw [HO_bk] at h ⊢; exact hb s h
  | ct s => rw [HO_ct] at h; exact h.elim
  | exc k s => rw [HO_exc] at h ⊢; exact he k s h
  | stuck => rw [HO_stuck] at h; exact h.elim
theorem H_inv {α : Type} {r : R α} {Q : α → S → Prop} {E : Nat → S → Prop} (h : H r Q E) : (∃ a s, r = .ok a s ∧ Q a s) ∨ ∃ k s, r = .exc k s ∧ E k s := by
  cases r with
  | ok a s => rw [H_ok] at h; exact .inl ⟨a, s, rfl, h⟩
  | exc k s => rw [H_exc] at h; exact .inr ⟨k, s, rfl, h⟩
  | stuck => rw [H_stuck] at h; exact h.elim
abbrev NoE : Nat → S → Prop := fun _ _ => False
theorem H_ok' {α : Type} {r : R α} {Q : α → S → Prop} (h : H r Q NoE) : ∃ a s, r = .ok a s ∧ Q a s := (H_inv h).elim id fun ⟨_, _, _, z⟩ => z.elim
/-- what an expression comes to, shown apart -/
theorem H_cut {α : Type} {r : R α} {Q : α → S → Prop} {E : Nat → S → Prop} (v : α) (s1 : S) (h : H r (fun v' s' => v' = v ∧ s' = s1) NoE) (hq : Q v s1) : H r Q E := by
  obtain ⟨a, s', rfl, rfl, rfl⟩ := H_ok' h
  rw [H_ok]; exact hq
theorem H_pure {C : Call} {e : DE} {s : S} {Q : Val → S → Prop} {E : Nat → S → Prop} (v : D) (h : H (evalE C e s) (fun v' s' => v' = (v, .fro) ∧ s' = s) NoE) (hq : Q (v, .fro) s) : H (evalE C e s) Q E := H_cut _ s h hq
/-- what a statement brings about, shown apart -/
theorem HO_cut {o : Out} {N : S → Prop} {V : Val → S → Prop} {B : S → Prop} {E : Nat → S → Prop} (J : S → Prop) (h : HO o J V B E) (hn : ∀ s, J s → N s) : HO o N V B E := HO_mono h hn (fun _ _ z => z) (fun _ z => z) fun _ _ z => z
/-- one turn of a comprehension -/
def Turn (C : Call) (tgt : Tgt) (own : List Nat) (cond : DO) (elt : DE) (s : S) (d : D) (res : Option D) : Prop :=
  ∃ s1, bindT tgt d (s.wipe own) = some s1 ∧ s1.wipe own = s.wipe own ∧ H (evalC C cond s1) (fun t s2 => s2 = s1 ∧ t = res.isSome) NoE ∧ ∀ y, res = some y → H (evalE C elt s1) (fun r s2 => r.1 = y ∧ s2.fz r.2 = s1) NoE
theorem lcL_ok {C : Call} {tgt : Tgt} {own : List Nat} {cond : DO} {elt : DE} {s : S} {f : D → Option D} : ∀ (ds acc : List D) (s' : S), s'.wipe own = s.wipe own → acc.length + ds.length ≤ LEN → (∀ d ∈ ds, Turn C tgt own cond elt s d (f d)) →
    ∃ s'', lcL tgt own (fun s => evalC C cond s) (fun s => (evalE C elt s).bind fun y s => .ok y.1 (s.fz y.2)) ds acc s' = .ok (acc ++ ds.filterMap f) s'' ∧ s''.wipe own = s.wipe own
  | [], acc, s', hw, hl, h => ⟨s', by simp [lcL], hw⟩
  | d :: ds, acc, s', hw, hl, h => by
    obtain ⟨s1, g1, g2, g3, g4⟩ := h d List.mem_cons_self
    have hl' : acc.length + ds.length + 1 ≤ LEN := by simpa [Nat.add_assoc] using hl
    obtain ⟨t, s2, q, rfl, e2⟩ := H_ok' g3
    simp only [lcL, hw, g1, q]
    show ∃ s'', (if t = true then _ else _) = _ ∧ _
    cases z : f d with
    | none =>
      rw [z] at e2
      have e2 : t = false := e2
      subst e2
      obtain ⟨s'', k1, k2⟩ := lcL_ok ds acc s2 g2 (by omega) fun d' m => h d' (List.mem_cons_of_mem _ m)
      refine ⟨s'', ?_, k2⟩
      simp only [Bool.false_eq_true, if_false, k1, List.filterMap_cons, z]
    | some y =>
      rw [z] at e2
      have e2 : t = true := e2
      subst e2
      obtain ⟨r, s3, q2, e3, e4⟩ := H_ok' (g4 y z)
      obtain ⟨s'', k1, k2⟩ := lcL_ok ds (acc ++ [y]) s2 g2 (by simp; omega) fun d' m => h d' (List.mem_cons_of_mem _ m)
      refine ⟨s'', ?_, k2⟩
      have e5 : ((R.ok r s3).bind fun (y : Val) s => R.ok y.1 (s.fz y.2)) = R.ok y s2 := by rw [← e3, ← e4]; rfl
      rw [if_pos rfl, q2, e5]
      show (if acc.length < LEN then lcL tgt own (fun s => evalC C cond s) (fun s => (evalE C elt s).bind fun y s => R.ok y.1 (s.fz y.2)) ds (acc ++ [y]) s2 else .stuck) = _
      rw [if_pos (by omega), k1, List.filterMap_cons, z, List.append_assoc]
      rfl
/-- a comprehension -/
theorem e_lc {C : Call} {s : S} {Q : Val → S → Prop} {E : Nat → S → Prop} {src : DSrc} {tgt : Tgt} {own : List (Str × Nat)} {cond : DO} {elt : DE} (ds : List D) (f : D → Option D) {s1 : S}
    (hs : evalS C src s = .ok ds s1) (hl : ds.length ≤ 16777216) (h : ∀ d ∈ ds, Turn C tgt (own.map (·.2)) cond elt s1 d (f d)) (hq : Q (.lst (ds.filterMap f), .fre) s1) : H (evalE C (.lc src tgt own cond elt) s) Q E := by
  simp only [evalE, hs]
  obtain ⟨s'', k1, k2⟩ := lcL_ok (C := C) ds [] s1 rfl (by simpa using hl) h
  show H (noExc (R.bind (lcL tgt (own.map (·.2)) (fun s => evalC C cond s) (fun s => (evalE C elt s).bind fun y s => .ok y.1 (s.fz y.2)) ds [] s1) _)) Q E
  rw [k1]
  show H (R.ok _ (s''.back s1 (own.map (·.2)))) Q E
  rw [S.wipe_back k2, H_ok]
  exact hq
/-- a comprehension with a test, by what its items are -/
theorem e_lcF {α : Type} {C : Call} {s : S} {Q : Val → S → Prop} {E : Nat → S → Prop} {src : DSrc} {tgt : Tgt} {own : List (Str × Nat)} {cond : DO} {elt : DE} (xs : List α) (enc : α → D) (p : α → Bool) (g : α → D)
    (h : H (evalS C src s) (fun ds s1 => ds = xs.map enc ∧ xs.length ≤ 16777216 ∧ (∀ x ∈ xs, optK (bindT tgt (enc x) (s1.wipe (own.map (·.2)))) s1 fun s2 _ => stK (s2.wipe (own.map (·.2))) (fun s3 => s3 = s1.wipe (own.map (·.2))) ∧ H (evalC C cond s2) (fun t s3 => t = p x ∧ s3 = s2) NoE ∧
      (p x = true → H (evalE C elt s2) (fun r s3 => r.1 = g x ∧ stK (s3.fz r.2) fun s4 => s4 = s2) NoE)) ∧ Q (.lst ((xs.filter p).map g), .fre) s1) NoE) : H (evalE C (.lc src tgt own cond elt) s) Q E := by
  obtain ⟨ds, s1, q, rfl, hl, ht, hq⟩ := H_ok' h
  have key : ∀ (F : D → Option D), (∀ x ∈ xs, F (enc x) = if p x then some (g x) else none) → (xs.map enc).filterMap F = (xs.filter p).map g := fun F hF => by
    clear h q hl ht hq
    induction xs with
    | nil => rfl
    | cons a r ih =>
      have ha := hF a List.mem_cons_self
      have ih := ih fun x m => hF x (List.mem_cons_of_mem _ m)
      cases z : p a <;> simp [ha, z, ih]
  classical
  have hF : ∀ x ∈ xs, ∀ x' ∈ xs, enc x = enc x' → (if p x then some (g x) else none) = if p x' then some (g x') else none := fun x m x' m' e => by
    have a := ht x m
    have b := ht x' m'
    rw [← e] at b
    cases z : bindT tgt (enc x) (s1.wipe (own.map (·.2))) with
    | none => rw [z] at a; exact (show False from a).elim
    | some s2 =>
      rw [z] at a b
      obtain ⟨_, c1, d1⟩ := (show _ ∧ _ ∧ _ from a)
      obtain ⟨_, c2, d2⟩ := (show _ ∧ _ ∧ _ from b)
      obtain ⟨t, s3, q3, e3, _⟩ := H_ok' c1
      obtain ⟨t', s3', q3', e3', _⟩ := H_ok' c2
      rw [q3] at q3'
      cases q3'
      have ep : p x = p x' := e3.symm.trans e3'
      rw [← ep]
      cases w : p x with
      | false => rfl
      | true =>
        obtain ⟨r, s4, q4, e4, _⟩ := H_ok' (d1 w)
        obtain ⟨r', s4', q4', e4', _⟩ := H_ok' (d2 (ep ▸ w))
        rw [q4] at q4'
        cases q4'
        rw [if_pos rfl, if_pos rfl, ← e4, ← e4']
  obtain ⟨F, hFF⟩ : ∃ F : D → Option D, ∀ x ∈ xs, F (enc x) = if p x then some (g x) else none := by
    refine ⟨fun d => if hd : ∃ x, x ∈ xs ∧ enc x = d then (if p hd.choose then some (g hd.choose) else none) else none, fun x m => ?_⟩
    have hd : ∃ y, y ∈ xs ∧ enc y = enc x := ⟨x, m, rfl⟩
    show (if hd : ∃ y, y ∈ xs ∧ enc y = enc x then _ else _) = _
    rw [dif_pos hd]
    exact hF _ hd.choose_spec.1 x m hd.choose_spec.2
  refine e_lc (xs.map enc) F q (by rw [List.length_map]; exact hl) (fun d m => ?_) (by rw [key F hFF]; exact hq)
  obtain ⟨x, mx, rfl⟩ := List.mem_map.mp m
  have a := ht x mx
  cases z : bindT tgt (enc x) (s1.wipe (own.map (·.2))) with
  | none => rw [z] at a; exact (show False from a).elim
  | some s2 =>
    rw [z] at a
    obtain ⟨a1, a2, a3⟩ := (show _ ∧ _ ∧ _ from a)
    refine ⟨s2, z, a1, H_mono a2 (fun t s3 hh => ⟨hh.2, ?_⟩) (fun _ _ z => z), fun y hy => ?_⟩
    · rw [hh.1, hFF x mx]; cases p x <;> rfl
    · rw [hFF x mx] at hy
      cases w : p x with
      | false => rw [w] at hy; cases hy
      | true =>
        rw [w] at hy
        cases hy
        exact H_mono (a3 w) (fun r s3 hh => ⟨hh.1, hh.2⟩) fun _ _ z => z
theorem c_none {C : Call} {s : S} {Q : Bool → S → Prop} {E : Nat → S → Prop} : H (evalC C .none s) Q E = Q true s := by simp only [evalC, H_ok]
theorem c_some {C : Call} {s : S} {Q : Bool → S → Prop} {E : Nat → S → Prop} {a : DE} : H (evalC C (.some a) s) Q E = H (evalE C a s) (fun x s => optK (blOf x.1) s Q) E := by simp only [evalC, H_asBl]
/-- .. without a test -/
theorem e_lcM {α : Type} {C : Call} {s : S} {Q : Val → S → Prop} {E : Nat → S → Prop} {src : DSrc} {tgt : Tgt} {own : List (Str × Nat)} {elt : DE} (xs : List α) (enc : α → D) (g : α → D)
    (h : H (evalS C src s) (fun ds s1 => ds = xs.map enc ∧ xs.length ≤ 16777216 ∧ (∀ x ∈ xs, optK (bindT tgt (enc x) (s1.wipe (own.map (·.2)))) s1 fun s2 _ => stK (s2.wipe (own.map (·.2))) (fun s3 => s3 = s1.wipe (own.map (·.2))) ∧
      H (evalE C elt s2) (fun r s3 => r.1 = g x ∧ stK (s3.fz r.2) fun s4 => s4 = s2) NoE) ∧ Q (.lst (xs.map g), .fre) s1) NoE) : H (evalE C (.lc src tgt own .none elt) s) Q E := by
  refine e_lcF xs enc (fun _ => true) g (H_mono h (fun ds s1 hh => ?_) fun _ _ z => z)
  obtain ⟨h1, h2, h3, h4⟩ := hh
  refine ⟨h1, h2, fun x m => ?_, by rw [show xs.filter (fun _ => true) = xs from List.filter_eq_self.mpr fun _ _ => rfl]; exact h4⟩
  have a := h3 x m
  cases z : bindT tgt (enc x) (s1.wipe (own.map (·.2))) with
  | none => rw [z] at a; exact (show False from a).elim
  | some s2 =>
    rw [z] at a
    obtain ⟨a1, a2⟩ := (show _ ∧ _ from a)
    exact (show _ ∧ _ ∧ _ from ⟨a1, by rw [c_none]; exact ⟨rfl, rfl⟩, fun _ => a2⟩)
section
variable {C : Call} {s : S} {E : Nat → S → Prop}
def seqL : D → Option (List D)
  | .lst ds => some ds
  | .tup ds => some ds
  | _ => none
def enumL : D → Option (List D)
  | .lst ds => some (enumD 0 ds)
  | _ => none
def zipL : D → D → Option (List D)
  | .lst xs, .lst ys => some (zipD xs ys)
  | .tup xs, .tup ys => some (zipD xs ys)
  | _, _ => none
theorem s_seq {a : DE} {Q : List D → S → Prop} : H (evalS C (.seq a) s) Q E = H (evalE C a s) (fun x s => optK (seqL x.1) s fun ds s => stK (s.fz x.2) fun s => Q ds s) E := by
  simp only [evalS, H_bind]
  refine H_ext fun x s => ?_
  obtain ⟨d, k⟩ := x
  cases d <;> first | exact H_ok | exact H_stuck
theorem s_rng1 {a : DE} {Q : List D → S → Prop} : H (evalS C (.rng1 a) s) Q E = H (evalE C a s) (fun x s => optK ((intOf x.1).bind fun n => rngD 0 n) s Q) E := by
  simp only [evalS, H_bind]
  exact H_ext fun x s => H_opt
theorem s_rng2 {a b : DE} {Q : List D → S → Prop} : H (evalS C (.rng2 a b) s) Q E = H (evalE C a s) (fun x s => H (evalE C b s) (fun y s => optK ((intOf x.1).bind fun m => (intOf y.1).bind fun n => rngD m n) s Q) E) E := by
  simp only [evalS, H_bind]
  exact H_ext fun x s => H_bind.trans (H_ext fun y s => H_opt)
theorem s_enum {a : DE} {Q : List D → S → Prop} : H (evalS C (.enum a) s) Q E = H (evalE C a s) (fun x s => optK (enumL x.1) s fun ds s => stK (s.fz x.2) fun s => Q ds s) E := by
  simp only [evalS, H_bind]
  refine H_ext fun x s => ?_
  obtain ⟨d, k⟩ := x
  cases d <;> first | exact H_ok | exact H_stuck
theorem s_zip {a b : DE} {Q : List D → S → Prop} : H (evalS C (.zip a b) s) Q E = H (evalE C a s) (fun x s => stK (s.fz x.2) fun s => H (evalE C b s) (fun y s => optK (zipL x.1 y.1) s fun ds s => stK (s.fz y.2) fun s => Q ds s) E) E := by
  simp only [evalS, H_bind]
  refine H_ext fun x s => H_bind.trans (H_ext fun y s => ?_)
  obtain ⟨d, k⟩ := x
  obtain ⟨d', k'⟩ := y
  cases d <;> cases d' <;> first | exact H_ok | exact H_stuck
theorem seqL_lst {ds : List D} : seqL (.lst ds) = some ds := nr rfl
theorem seqL_tup {ds : List D} : seqL (.tup ds) = some ds := nr rfl
theorem enumL_lst {ds : List D} : enumL (.lst ds) = some (enumD 0 ds) := nr rfl
theorem zipL_lst {xs ys : List D} : zipL (.lst xs) (.lst ys) = some (zipD xs ys) := nr rfl
theorem zipL_tup {xs ys : List D} : zipL (.tup xs) (.tup ys) = some (zipD xs ys) := nr rfl
end
/-- the ints from lo on -/
def rangeI (lo hi : Int) : List Int := (List.range (hi - lo).toNat).map fun (i : Nat) => lo + i
theorem mem_rangeI {lo hi i : Int} : i ∈ rangeI lo hi ↔ lo ≤ i ∧ i < hi := by
  simp only [rangeI, List.mem_map, List.mem_range]
  constructor
  · rintro ⟨j, h, rfl⟩; omega
  · intro h; exact ⟨(i - lo).toNat, by omega, by omega⟩
theorem len_rangeI {lo hi : Int} : (rangeI lo hi).length = (hi - lo).toNat := by simp [rangeI]
theorem get_rangeI {lo hi : Int} {i : Nat} {x : Int} (h : (rangeI lo hi)[i]? = some x) : x = lo + i ∧ (i : Int) < hi - lo := by
  have hi' : i < (hi - lo).toNat := by rw [← len_rangeI]; exact (List.getElem?_eq_some_iff.mp h).1
  simp only [rangeI, List.getElem?_map, List.getElem?_range hi', Option.map_some, Option.some.injEq] at h
  omega
theorem rngD_ok {lo hi : Int} (h1 : -4611686018427387904 ≤ lo) (h2 : lo < 4611686018427387904) (h3 : -4611686018427387904 ≤ hi) (h4 : hi < 4611686018427387904) : rngD lo hi = some ((rangeI lo hi).map .int) := by
  unfold rngD rangeI
  rw [if_pos ⟨h1, h2, h3, h4⟩, List.map_map]
  rfl
theorem enumD_map {α : Type} (enc : α → D) : ∀ (xs : List α) (i : Int), enumD i (xs.map enc) = (xs.zipIdx 0).map fun p => .tup [.int (i + p.2), enc p.1] := by
  have gen : ∀ (xs : List α) (i : Int) (j : Nat), enumD (i + j) (xs.map enc) = (xs.zipIdx j).map fun p => .tup [.int (i + p.2), enc p.1] := by
    intro xs
    induction xs with
    | nil => intro i j; rfl
    | cons a r ih =>
      intro i j
      have := ih i (j + 1)
      simp only [List.map_cons, enumD, List.zipIdx_cons, List.cons.injEq, true_and]
      rw [← this]
      congr 1
      omega
  intro xs i
  have := gen xs i 0
  simpa using this
theorem zipD_map {α β : Type} (f : α → D) (g : β → D) : ∀ (xs : List α) (ys : List β), zipD (xs.map f) (ys.map g) = (xs.zip ys).map fun p => .tup [f p.1, g p.2]
  | [], _ => by simp [zipD]
  | _ :: _, [] => by simp [zipD]
  | x :: xs, y :: ys => by simp [zipD, zipD_map f g xs ys]
/-- a loop over the items ds: I what holds by the number of turns done -/
theorem forL_ok {C : Call} {tgt : Tgt} {body : DB} {N : S → Prop} {V : Val → S → Prop} {B : S → Prop} {E : Nat → S → Prop} (ds : List D) (I : Nat → S → Prop)
    (h : ∀ i d s, ds[i]? = some d → I i s → ∃ s1, bindT tgt d s = some s1 ∧ HO (execB C body s1) (I (i + 1)) V N E) (hN : ∀ s, I ds.length s → N s) : ∀ (k : Nat) (s : S), k ≤ ds.length → I k s → HO (forL tgt (fun s => execB C body s) (ds.drop k) s) N V B E := by
  intro k
  induction hk : ds.length - k generalizing k with
  | zero =>
    intro s hl hI
    have e : k = ds.length := by omega
    subst e
    rw [List.drop_length]
    show HO (.nx s) N V B E
    rw [HO_nx]
    exact hN s hI
  | succ m ih =>
    intro s hl hI
    have hlt : k < ds.length := by omega
    rw [List.drop_eq_getElem_cons hlt]
    obtain ⟨s1, g1, g2⟩ := h k _ s (List.getElem?_eq_getElem hlt) hI
    simp only [forL, g1]
    cases q : execB C body s1 with
    | nx s2 => rw [q, HO_nx] at g2; exact ih (k + 1) (by omega) s2 hlt g2
    | rt r s2 => rw [q, HO_rt] at g2; simp only [HO_rt]; exact g2
    | bk s2 => rw [q, HO_bk] at g2; simp only [HO_nx]; exact g2
    | ct s2 => rw [q, HO_ct] at g2; exact g2.elim
    | exc k s2 => rw [q, HO_exc] at g2; simp only [HO_exc]; exact g2
    | stuck => rw [q, HO_stuck] at g2; exact g2.elim
theorem x_forT {α : Type} {C : Call} {s : S} {tgt : Tgt} {src : DSrc} {body : DB} {N : S → Prop} {V : Val → S → Prop} {B : S → Prop} {E : Nat → S → Prop} (xs : List α) (enc : α → D) (J : S → Nat → S → Prop)
    (h : H (evalS C src s) (fun ds s0 => ds = xs.map enc ∧ J s0 0 s0 ∧ (∀ i x s', xs[i]? = some x → J s0 i s' → optK (bindT tgt (enc x) s') s' fun s1 _ => HO (execB C body s1) (fun s2 => J s0 (i + 1) s2) V N E) ∧ (∀ s', J s0 xs.length s' → N s')) E) : HO (exec C (.for tgt src body) s) N V B E := by
  simp only [exec, HO_out]
  refine H_mono h (fun ds s0 hh => ?_) fun _ _ z => z
  obtain ⟨rfl, h0, h1, h2⟩ := hh
  refine forL_ok (xs.map enc) (J s0) (fun i d s' hd hI => ?_) (fun s' hI => h2 s' (by rw [List.length_map] at hI; exact hI)) 0 s0 (Nat.zero_le _) h0
  rw [List.getElem?_map] at hd
  obtain ⟨x, hx, rfl⟩ := Option.map_eq_some_iff.mp hd
  have a := h1 i x s' hx hI
  cases z : bindT tgt (enc x) s' with
  | none => rw [z] at a; exact (show False from a).elim
  | some s1 => rw [z] at a; exact ⟨s1, rfl, a⟩
/-- a loop with a condition: J what holds by what is left to do -/
theorem x_whileT {C : Call} {s : S} {c : DE} {body : DB} {N : S → Prop} {V : Val → S → Prop} {B : S → Prop} {E : Nat → S → Prop} (m : Nat) (J : S → Nat → S → Prop) (hm : m < 1000000) (h0 : J s m s)
    (h : ∀ m s', J s m s' → H (evalE C c s') (fun x s1 => optK (blOf x.1) s1 fun t s1 => condK t (HO (execB C body s1) (fun s2 => ∃ m', m' < m ∧ J s m' s2) V N E) (N s1)) E) : HO (exec C (.while c body) s) N V B E := by
  simp only [exec]
  have go : ∀ (n m : Nat) (s' : S), m < n → J s m s' → HO (whileL (fun s => asBl (evalE C c s)) (fun s => execB C body s) n s') N V B E := by
    intro n
    induction n with
    | zero => intro m s' hm; omega
    | succ n ih =>
      intro m s' hmn hI
      simp only [whileL, HO_out, H_asBl]
      refine H_mono (h m s' hI) (fun x s1 hh => ?_) fun _ _ z => z
      cases q2 : blOf x.1 with
      | none => rw [q2] at hh; exact (show False from hh).elim
      | some t =>
        rw [q2] at hh
        have hh : condK t _ _ := hh
        show HO (if t = true then _ else _) N V B E
        cases t with
        | false => rw [condK_false] at hh; rw [if_neg (by simp), HO_nx]; exact hh
        | true =>
          rw [condK_true] at hh
          rw [if_pos rfl]
          cases q3 : execB C body s1 with
          | nx s2 =>
            rw [q3, HO_nx] at hh
            obtain ⟨m', hm', hI'⟩ := hh
            exact ih m' s2 (by omega) hI'
          | rt r s2 => rw [q3, HO_rt] at hh; simp only [HO_rt]; exact hh
          | bk s2 => rw [q3, HO_bk] at hh; simp only [HO_nx]; exact hh
          | ct s2 => rw [q3, HO_ct] at hh; exact hh.elim
          | exc k s2 => rw [q3, HO_exc] at hh; simp only [HO_exc]; exact hh
          | stuck => rw [q3, HO_stuck] at hh; exact hh.elim
  exact go WF m s hm h0
end DL

/-! W3: the words that walk; more about data. -/
namespace DL
open PySem L2
theorem wipe_nil {s : S} : s.wipe [] = s := nr rfl
theorem wipe_cons {s : S} {i : Nat} {is : List Nat} : s.wipe (i :: is) = (s.wipe is).set i .un := nr rfl
theorem bindT_nm {i : Nat} {d : D} {s : S} : bindT (.nm i) d s = some (s.set i (.fro d)) := nr rfl
theorem bindT_tp {is : List Nat} {ds : List D} {s : S} : bindT (.tp is) (.tup ds) s = if ds.length = is.length then some ((is.zip ds).foldl (fun s p => s.set p.1 (.fro p.2)) s) else none := nr rfl
theorem mul_lst {a : List D} {k : Int} : binD .mul (.lst a) (.int k) = if -9223372036854775808 ≤ k ∧ k < 9223372036854775808 ∧ a.length * k.toNat ≤ 16777216 then some (.lst (List.replicate k.toNat a).flatten, .fre) else none := nr rfl
theorem mul_tup {a : List D} {k : Int} : binD .mul (.tup a) (.int k) = if 0 < a.length ∧ a.length ≤ 1000 ∧ -1000 ≤ k ∧ k ≤ 1000 then some (.tup (List.replicate k.toNat a).flatten, .fro) else none := nr rfl
theorem isin_any {x y : D} : cmpD .isin x y = inD x y := by cases x <;> cases y <;> rfl
theorem notin_any {x y : D} : cmpD .notin x y = (inD x y).map (! ·) := by cases x <;> cases y <;> rfl
theorem ix_dic {kds : List (Key × D)} {y : D} : ixD (.dic kds) y = (keyOf y).bind (getD' kds) := nr rfl
theorem eq_lints_nil {a : List Int} : eqD (.lst (a.map .int)) (.lst []) = some (decide (a = [])) := eq_lints (b := [])
theorem imms_ints : ∀ ns : List Int, imms (ns.map .int) = true
  | [] => by simp [imms]
  | a :: r => by simp [imms, imm, imms_ints r]
theorem sum_tup {xs : List D} : biD .sum [.tup xs] = (intsOf xs).map fun ns => (.int ns.sum, .fro) := nr rfl
theorem max_int {i j : Int} : biD .max [.int i, .int j] = some (.int (if j > i then j else i), .fro) := nr rfl
theorem min_int {i j : Int} : biD .min [.int i, .int j] = some (.int (if j < i then j else i), .fro) := nr rfl
theorem abs_int {i : Int} : biD .abs [.int i] = some (.int (if i < 0 then -i else i), .fro) := nr rfl
theorem int_bl {b : Bool} : biD .int [.bl b] = some (.int (if b then 1 else 0), .fro) := nr rfl
theorem int_int {b : Int} : biD .int [.int b] = some (.int b, .fro) := nr rfl
theorem intsOf_map : ∀ ns : List Int, intsOf (ns.map .int) = some ns
  | [] => rfl
  | a :: r => by simp [intsOf, intsOf_map r]
theorem blsOf_map : ∀ ns : List Bool, blsOf (ns.map .bl) = some ns
  | [] => rfl
  | a :: r => by simp [blsOf, blsOf_map r]
theorem truD_lst {xs : List D} : truD (.lst xs) = some (!xs.isEmpty) := nr rfl
theorem setD_len {xs : List D} : setD true (.lst xs) = (intsOf xs).bind fun ns => if ns.length ≤ 4000 then some (.int (onceD ns).length, .fro) else none := nr rfl
theorem setD_srt {xs : List D} : setD false (.lst xs) = (intsOf xs).bind fun ns => if ns.length < 64 then some (.lst ((sortI (onceD ns)).map D.int), .fre) else none := nr rfl
theorem sorted_lst {xs : List D} : biD .sorted [.lst xs] = (intsOf xs).map fun ns => (.lst ((sortI ns).map D.int), .fre) := nr rfl
theorem sorted_dic {xs : List (Key × D)} : biD .sorted [.dic xs] = (keysI xs).map fun ns => (.lst ((sortI ns).map D.int), .fre) := nr rfl
theorem get1_dic {kds : List (Key × D)} {k : D} : methD .get (.dic kds) [k] = (keyOf k).map fun k => (getD' kds k).getD .non := nr rfl
theorem get2_dic {kds : List (Key × D)} {k d : D} : methD .get (.dic kds) [k, d] = (keyOf k).map fun k => (getD' kds k).getD d := nr rfl
theorem count_lst {xs : List D} {k : Int} : methD .count (.lst xs) [.int k] = (intsOf xs).map fun ns => .int (ns.count k) := nr rfl
theorem recv_get {kds : List (Key × D)} : recv .get (.dic kds) = true := nr rfl
theorem recv_count {kds : List D} : recv .count (.lst kds) = true := nr rfl
theorem recv_index {kds : List D} : recv .index (.lst kds) = true := nr rfl
theorem keyOf_int {i : Int} : keyOf (.int i) = some (.inl i) := nr rfl
theorem keyOf_str {i : Str} : keyOf (.str i) = some (.inr i) := nr rfl
theorem isi_ii {i : Int} : isiD (.int i) .int = some true := nr rfl
theorem isi_ib {i : Int} : isiD (.int i) .bool = some false := nr rfl
theorem isi_tt {i : List D} : isiD (.tup i) .tuple = some true := nr rfl
theorem isi_ss {i : Str} : isiD (.str i) .str = some true := nr rfl
theorem isi_ll {i : List D} : isiD (.lst i) .list = some true := nr rfl
theorem isi_bi {i : Bool} : isiD (.bl i) .int = some true := nr rfl
theorem isi_bb {i : Bool} : isiD (.bl i) .bool = some true := nr rfl
theorem isi_lt {i : List D} : isiD (.lst i) .tuple = some false := nr rfl
theorem isi_tl {i : List D} : isiD (.tup i) .list = some false := nr rfl
def extK (c : Option Cl) (d : D) (i : Nat) (s : S) (N : S → Prop) (u : Dum N := .u) : Prop := match c, d with
  | some (.own (.lst ds)), .lst es => ds.length + es.length ≤ 16777216 ∧ stK (s.set i (.own (.lst (ds ++ es)))) N
  | _, _ => False
theorem extK_own {i : Nat} {ds es : List D} {s : S} {N : S → Prop} : extK (some (.own (.lst ds))) (.lst es) i s N = (ds.length + es.length ≤ 16777216 ∧ stK (s.set i (.own (.lst (ds ++ es)))) N) := nr rfl
theorem x_extend' {C : Call} {s : S} {N : S → Prop} {V : Val → S → Prop} {B : S → Prop} {E : Nat → S → Prop} {i : Nat} {e : DE} : HO (exec C (.extend i e) s) N V B E = (isOwnL s.ρ[i]? = true ∧ H (evalE C e s) (fun r s => extK s.ρ[i]? r.1 i s N) E) := by
  rw [x_extend]
  refine congrArg (_ ∧ ·) (H_ext fun r s => ?_)
  simp only [extendS, extK]
  cases s.ρ[i]? with
  | none => exact HO_stuck
  | some c =>
    cases c with
    | own d =>
      cases d with
      | lst ds =>
        cases r.1 with
        | lst es => exact HO_ite.trans (congrArg (_ ∧ ·) HO_nx)
        | _ => exact HO_stuck
      | _ => exact HO_stuck
    | _ => exact HO_stuck
def isOwn : Option Cl → Bool
  | some (.own _) => true
  | _ => false
theorem isOwn_own {d : D} : isOwn (some (.own d)) = true := nr rfl
def setK (c : Option Cl) (x d : D) (i : Nat) (s : S) (N : S → Prop) (u : Dum N := .u) : Prop := match c with
  | some (.own (.lst ds)) => (match x with
    | .int k => optK (ixN ds.length k) s fun n s => stK (s.set i (.own (.lst (ds.set n d)))) N
    | _ => False)
  | some (.own (.dic kds)) => optK (keyOf x) s fun k s => kds.length < 16777216 ∧ stK (s.set i (.own (.dic (putD kds k d)))) N
  | _ => False
theorem setK_dic {kds : List (Key × D)} {x d : D} {i : Nat} {s : S} {N : S → Prop} : setK (some (.own (.dic kds))) x d i s N = optK (keyOf x) s fun k s => kds.length < 16777216 ∧ stK (s.set i (.own (.dic (putD kds k d)))) N := nr rfl
theorem setK_lst {ds : List D} {k : Int} {d : D} {i : Nat} {s : S} {N : S → Prop} : setK (some (.own (.lst ds))) (.int k) d i s N = optK (ixN ds.length k) s fun n s => stK (s.set i (.own (.lst (ds.set n d)))) N := nr rfl
theorem x_setix' {C : Call} {s : S} {N : S → Prop} {V : Val → S → Prop} {B : S → Prop} {E : Nat → S → Prop} {i : Nat} {j e : DE} : HO (exec C (.setix i j e) s) N V B E = (isOwn s.ρ[i]? = true ∧ H (evalE C e s) (fun r s => stK (s.fz r.2) fun s => H (evalE C j s) (fun x s => setK s.ρ[i]? x.1 r.1 i s N) E) E) := by
  rw [x_setix]
  refine congrArg (_ ∧ ·) (H_ext fun r s => stK_ext fun s => H_ext fun x s => ?_)
  simp only [setS, setK]
  cases s.ρ[i]? with
  | none => exact HO_stuck
  | some c =>
    cases c with
    | own d =>
      cases d with
      | lst ds =>
        cases x.1 with
        | int k =>
          simp only
          cases ixN ds.length k with
          | none => exact HO_stuck
          | some n => exact HO_nx
        | _ => exact HO_stuck
      | dic kds =>
        simp only
        cases keyOf x.1 with
        | none => exact HO_stuck
        | some k => exact HO_ite.trans (congrArg (_ ∧ ·) HO_nx)
      | _ => exact HO_stuck
    | _ => exact HO_stuck
theorem at0 {α : Type} {a : α} {r : List α} : atI (a :: r) 0 = some a := by
  have := atI_nat (xs := a :: r) (i := 0) (by simp)
  simpa using this
theorem at1 {α : Type} {a b : α} {r : List α} : atI (a :: b :: r) 1 = some b := by
  have := atI_nat (xs := a :: b :: r) (i := 1) (by simp)
  simpa using this
theorem at2 {α : Type} {a b c : α} {r : List α} : atI (a :: b :: c :: r) 2 = some c := by
  have := atI_nat (xs := a :: b :: c :: r) (i := 2) (by simp)
  simpa using this
theorem last1 {α : Type} {a : α} : atI [a] (-1) = some a := by
  have := atI_neg (xs := [a]) (i := 1) (by simp) (by simp)
  simpa using this
theorem last2 {α : Type} {a b : α} : atI [a, b] (-1) = some b := by
  have := atI_neg (xs := [a, b]) (i := 1) (by simp) (by simp)
  simpa using this
theorem last3 {α : Type} {a b c : α} : atI [a, b, c] (-1) = some c := by
  have := atI_neg (xs := [a, b, c]) (i := 1) (by simp) (by simp)
  simpa using this
theorem at_map {α : Type} {f : α → D} {xs : List α} {i : Int} {x : α} (h0 : 0 ≤ i) (h : xs[i.toNat]? = some x) : atI (xs.map f) i = some (f x) := by
  have hk : i.toNat < xs.length := (List.getElem?_eq_some_iff.mp h).1
  obtain ⟨k, rfl⟩ : ∃ k : Nat, i = k := ⟨i.toNat, by omega⟩
  rw [Int.toNat_natCast] at h hk
  rw [atI_nat (by rw [List.length_map]; exact hk), List.getElem?_map, h]
  rfl
theorem at_ints {row : List Int} {i : Int} (h0 : 0 ≤ i) (h : i < row.length) : atI (row.map D.int) i = some (.int (row.getD i.toNat 0)) := by
  have hk : i.toNat < row.length := by omega
  exact at_map h0 (by simp [List.getD, List.getElem?_eq_getElem hk])
theorem at_last {α : Type} {f : α → D} {xs : List α} {x : α} (h : xs.getLast? = some x) : atI (xs.map f) (-1) = some (f x) := by
  have hl : 0 < xs.length := List.length_pos_iff.mpr fun e => by rw [e] at h; cases h
  have := atI_neg (xs := xs.map f) (i := 1) (by omega) (by simp; omega)
  rw [show (-1 : Int) = -((1 : Nat) : Int) from rfl, this, List.length_map, List.getElem?_map]
  rw [List.getLast?_eq_getElem?] at h
  rw [h]
  rfl
def encO : Option Int → D
  | none => .non
  | some i => .int i
theorem encO_some {i : Int} : encO (some i) = .int i := nr rfl
theorem encO_none : encO none = .non := nr rfl
theorem nice_encO {n : Nat} : ∀ {a : Option Int}, nice n (encO a) = true
  | none => by cases n <;> simp [encO, nice]
  | some i => by cases n <;> simp [encO, nice]
theorem encO_inj {a b : Option Int} : encO a = encO b ↔ a = b := by
  cases a <;> cases b <;> simp [encO]
theorem eq_encO {a b : Option Int} : eqD (encO a) (encO b) = some (decide (a = b)) := by
  rw [eq_nice (n := 0) (m := 0) nice_encO nice_encO]
  congr 1
  by_cases h : a = b <;> simp [h, encO_inj]
theorem cut_take {α : Type} (xs : List α) (k : Nat) : cutD xs none (some (k : Int)) = xs.take k := by
  unfold cutD
  rw [HT.sIx_none, HT.sIx_nat]
  simp
theorem cut_drop {α : Type} (xs : List α) (k : Nat) : cutD xs (some (k : Int)) none = xs.drop k := by
  unfold cutD
  rw [HT.sIx_none, HT.sIx_nat]
  by_cases h : k ≤ xs.length
  · rw [Nat.min_eq_left h]
    rw [List.take_of_length_le (by rw [List.length_drop]; omega)]
  · rw [Nat.min_eq_right (by omega), List.drop_of_length_le (by omega : xs.length ≤ k)]
    simp
theorem cut_takeI {α : Type} {xs : List α} {i : Int} (h : 0 ≤ i) : cutD xs none (some i) = xs.take i.toNat := by
  have := cut_take xs i.toNat
  rwa [Int.toNat_of_nonneg h] at this
theorem cut_dropI {α : Type} {xs : List α} {i : Int} (h : 0 ≤ i) : cutD xs (some i) none = xs.drop i.toNat := by
  have := cut_drop xs i.toNat
  rwa [Int.toNat_of_nonneg h] at this
theorem cut_bothI {α : Type} {xs : List α} {i j : Int} (h : 0 ≤ i) (h2 : 0 ≤ j) : cutD xs (some i) (some j) = (xs.take j.toNat).drop i.toNat := by
  obtain ⟨a, rfl⟩ : ∃ a : Nat, i = a := ⟨i.toNat, by omega⟩
  obtain ⟨b, rfl⟩ : ∃ b : Nat, j = b := ⟨j.toNat, by omega⟩
  unfold cutD
  simp only [HT.sIx_nat, Int.toNat_natCast]
  by_cases ha : a ≤ xs.length
  · rw [Nat.min_eq_left ha]
    by_cases hb : b ≤ xs.length
    · rw [Nat.min_eq_left hb, List.drop_take]
    · rw [Nat.min_eq_right (by omega), List.take_of_length_le (by omega : xs.length ≤ b), List.take_of_length_le (by rw [List.length_drop]; omega)]
  · rw [Nat.min_eq_right (show xs.length ≤ a by omega), List.drop_of_length_le (Nat.le_refl xs.length), List.drop_of_length_le (by rw [List.length_take]; omega)]
    simp
theorem cut_init {α : Type} {xs : List α} : cutD xs none (some (-1)) = xs.take (xs.length - 1) := by
  have e : HT.sIx xs.length xs.length (some (-1)) = xs.length - 1 := by
    have e1 : HT.sIx xs.length xs.length (some (-1)) = ((-1 : Int) + (xs.length : Int)).toNat := rfl
    rw [e1]
    omega
  unfold cutD
  rw [HT.sIx_none, e]
  simp
end DL

/-! W4: draws; terms, rules, rows. -/
namespace DL
open PySem L2
local macro_rules | `(tactic| walk_at "wp") => `(tactic| try simp (disch := first | assumption | omega) only [↓DL.H_ok, ↓DL.H_bind, ↓DL.H_opt, ↓DL.optK_some, ↓DL.optK_ite, ↓DL.condK_true, ↓DL.condK_false, ↓DL.condK_dec, ↓DL.condK_not, ↓DL.varK_fro, ↓DL.varK_own, ↓DL.callR_ok, ↓DL.callR_exc, ↓DL.e_var, ↓DL.e_glob, ↓DL.e_int, ↓DL.e_bl, ↓DL.e_str, ↓DL.e_non, ↓DL.e_bin, ↓DL.e_neg, ↓DL.H_asBl, ↓DL.e_not, ↓DL.e_and, ↓DL.e_or, ↓DL.e_and1, ↓DL.e_or1, ↓DL.H_if, ↓DL.e_and2, ↓DL.e_or2, ↓DL.e_cmp, ↓DL.e_chain, ↓DL.e_isN, ↓DL.e_isB, ↓DL.e_ife, ↓DL.H_ite, ↓DL.e_tup, ↓DL.e_lst, ↓DL.e_dic0, ↓DL.e_fz0, ↓DL.e_fz, ↓DL.e_es0, ↓DL.e_es, ↓DL.e_ix, ↓DL.e_slice, ↓DL.e_o0, ↓DL.e_o, ↓DL.e_bi, ↓DL.e_isi, ↓DL.e_meth, ↓DL.e_call, ↓DL.e_revs, ↓DL.e_orT, ↓DL.e_setf, ↓DL.HO_out, ↓DL.x_nil, ↓DL.x_cons, ↓DL.HO_nx, ↓DL.HO_if, ↓DL.HO_ite, ↓DL.x_asg, ↓DL.x_expr, ↓DL.x_ret, ↓DL.x_ite, ↓DL.x_pass, ↓DL.x_brk, ↓DL.x_raise, ↓DL.x_par, ↓DL.x_asgT, ↓DL.x_append', ↓DL.x_extend', ↓DL.x_setix', ↓DL.s_seq, ↓DL.s_rng1, ↓DL.s_rng2, ↓DL.s_enum, ↓DL.s_zip, ↓DL.c_none, ↓DL.c_some, DL.seqL_lst, DL.seqL_tup, DL.enumL_lst, DL.zipL_lst, DL.zipL_tup, DL.rngD_ok, DL.len_rangeI, DL.stK_mk, DL.put_fro, DL.put_fre, DL.put_bor, DL.fz_fro, DL.fz_fre, DL.fz_bor, DL.set_mk, DL.wipe_nil, DL.wipe_cons, DL.bindT_nm, DL.bindT_tp, DL.frz_mk, DL.frzC_own, DL.frzC_fro, DL.fzs_nil, DL.fzs_cons, DL.add_int, DL.add_lst, DL.add_tup, DL.sub_int, DL.mul_int, DL.mul_lst, DL.mul_tup, DL.fdiv_int, DL.md_int, DL.lt_int, DL.le_int, DL.gt_int, DL.ge_int, DL.eq_any, DL.ne_any, DL.isin_any, DL.notin_any, DL.blOf_bl, DL.intOf_int, DL.len_lst, DL.len_tup, DL.len_scr, DL.ix_lst, DL.ix_tup, DL.ix_scr, DL.ix_dic, DL.eq_int, DL.eq_lints, DL.eq_lints_nil, DL.scr_eq_nil, DL.imm_int, DL.imm_bl, DL.imm_non, DL.imm_str, DL.imm_lst, DL.imm_tup, DL.imms_nil, DL.imms_cons, DL.imms_ints, DL.own_fro, DL.own_fre, DL.own_bor, DL.ownB_own, DL.ownB_fro, DL.clOf_fro, DL.clOf_fre, DL.clOf_bor, DL.isNon_non, DL.isNon_int, DL.isNon_tup, DL.isNon_lst, DL.isNon_str, DL.slice_lst, DL.slice_tup, DL.list_lst, DL.list_tup, DL.tuple_lst, DL.tuple_tup, DL.sum_lst, DL.sum_tup, DL.all_lst, DL.max_int, DL.min_int, DL.abs_int, DL.int_bl, DL.int_int, DL.intsOf_map, DL.blsOf_map, DL.truD_lst, DL.setD_len, DL.setD_srt, DL.sorted_lst, DL.sorted_dic, DL.get1_dic, DL.get2_dic, DL.count_lst, DL.recv_get, DL.recv_count, DL.recv_index, DL.keyOf_int, DL.keyOf_str, DL.appK_own, DL.extK_own, DL.setK_dic, DL.setK_lst, DL.isOwnL_own, DL.isOwn_own, DL.isi_ii, DL.isi_ib, DL.isi_tt, DL.isi_ss, DL.isi_ll, DL.isi_bi, DL.isi_bb, DL.isi_lt, DL.isi_tl, DL.at0, DL.at1, DL.at2, DL.last1, DL.last2, DL.last3, DL.at_ints, DL.encO_some, DL.encO_none, CRes.ok.injEq, D.bl.injEq, D.int.injEq, D.lst.injEq, D.tup.injEq, D.str.injEq, DL.ints_inj, Prod.mk.injEq, if_true, if_false, Bool.false_eq_true, Bool.true_eq_false, Bool.and_true, Bool.true_and, Bool.and_self, Bool.and_false, Bool.false_and, List.length_cons, List.length_nil, List.length_map, Nat.reduceAdd, Nat.reduceLeDiff, true_and, and_true, List.zip_cons_cons, List.zip_nil_right, List.foldl_cons, List.foldl_nil, bne_self_eq_false, Bool.bne_false, Bool.bne_true, Bool.not_false, Bool.not_true, Option.map_none, List.cons_append, List.nil_append, Nat.reduceLT, or_self, and_self, or_true, true_or, or_false, false_or, and_false, false_and, Int.cast_ofNat_Int, Int.reduceLT, Int.reduceLE, Int.reduceEq, Int.reduceNeg, Int.reduceAdd, Int.reduceSub, Int.reduceToNat, true_imp_iff, false_imp_iff, not_true_eq_false, not_false_eq_true, Bool.not_eq_true, Bool.not_eq_false, List.getElem?_cons_succ, List.getElem?_cons_zero, List.set_cons_zero, List.set_cons_succ, List.map_cons, List.map_nil, List.drop_zero, List.take_zero, DL.omap, DL.obind, eq_self, decide_true, decide_false, decide_eq_true_eq, decide_eq_false_iff_not, imp_false, Classical.not_not, reduceCtorEq, implies_true])
local macro_rules | `(tactic| walk_at "ws") => `(tactic| try simp (disch := first | assumption | omega) only [↓DL.H_ok, ↓DL.H_bind, ↓DL.H_opt, ↓DL.optK_some, ↓DL.optK_ite, ↓DL.condK_true, ↓DL.condK_false, ↓DL.condK_dec, ↓DL.condK_not, ↓DL.varK_fro, ↓DL.varK_own, ↓DL.callR_ok, ↓DL.callR_exc, ↓DL.e_var, ↓DL.e_glob, ↓DL.e_int, ↓DL.e_bl, ↓DL.e_str, ↓DL.e_non, ↓DL.e_bin, ↓DL.e_neg, ↓DL.H_asBl, ↓DL.e_not, ↓DL.e_and, ↓DL.e_or, ↓DL.e_and1, ↓DL.e_or1, ↓DL.H_if, ↓DL.e_and2, ↓DL.e_or2, ↓DL.e_cmp, ↓DL.e_chain, ↓DL.e_isN, ↓DL.e_isB, ↓DL.e_ife, ↓DL.H_ite, ↓DL.e_tup, ↓DL.e_lst, ↓DL.e_dic0, ↓DL.e_fz0, ↓DL.e_fz, ↓DL.e_es0, ↓DL.e_es, ↓DL.e_ix, ↓DL.e_slice, ↓DL.e_o0, ↓DL.e_o, ↓DL.e_bi, ↓DL.e_isi, ↓DL.e_meth, ↓DL.e_call, ↓DL.e_revs, ↓DL.e_orT, ↓DL.e_setf, ↓DL.HO_out, ↓DL.x_nil, ↓DL.x_cons, ↓DL.HO_nx, ↓DL.HO_if, ↓DL.HO_ite, ↓DL.x_asg, ↓DL.x_expr, ↓DL.x_ret, ↓DL.x_ite, ↓DL.x_pass, ↓DL.x_brk, ↓DL.x_raise, ↓DL.x_par, ↓DL.x_asgT, ↓DL.x_append', ↓DL.x_extend', ↓DL.x_setix', ↓DL.s_seq, ↓DL.s_rng1, ↓DL.s_rng2, ↓DL.s_enum, ↓DL.s_zip, ↓DL.c_none, ↓DL.c_some, DL.seqL_lst, DL.seqL_tup, DL.enumL_lst, DL.zipL_lst, DL.zipL_tup, DL.rngD_ok, DL.len_rangeI, DL.stK_mk, DL.put_fro, DL.put_fre, DL.put_bor, DL.fz_fro, DL.fz_fre, DL.fz_bor, DL.set_mk, DL.wipe_nil, DL.wipe_cons, DL.bindT_nm, DL.bindT_tp, DL.frz_mk, DL.frzC_own, DL.frzC_fro, DL.fzs_nil, DL.fzs_cons, DL.add_int, DL.add_lst, DL.add_tup, DL.sub_int, DL.mul_int, DL.mul_lst, DL.mul_tup, DL.fdiv_int, DL.md_int, DL.lt_int, DL.le_int, DL.gt_int, DL.ge_int, DL.eq_any, DL.ne_any, DL.isin_any, DL.notin_any, DL.blOf_bl, DL.intOf_int, DL.len_lst, DL.len_tup, DL.len_scr, DL.ix_lst, DL.ix_tup, DL.ix_scr, DL.ix_dic, DL.eq_int, DL.eq_lints, DL.eq_lints_nil, DL.scr_eq_nil, DL.imm_int, DL.imm_bl, DL.imm_non, DL.imm_str, DL.imm_lst, DL.imm_tup, DL.imms_nil, DL.imms_cons, DL.imms_ints, DL.own_fro, DL.own_fre, DL.own_bor, DL.ownB_own, DL.ownB_fro, DL.clOf_fro, DL.clOf_fre, DL.clOf_bor, DL.isNon_non, DL.isNon_int, DL.isNon_tup, DL.isNon_lst, DL.isNon_str, DL.slice_lst, DL.slice_tup, DL.list_lst, DL.list_tup, DL.tuple_lst, DL.tuple_tup, DL.sum_lst, DL.sum_tup, DL.all_lst, DL.max_int, DL.min_int, DL.abs_int, DL.int_bl, DL.int_int, DL.intsOf_map, DL.blsOf_map, DL.truD_lst, DL.setD_len, DL.setD_srt, DL.sorted_lst, DL.sorted_dic, DL.get1_dic, DL.get2_dic, DL.count_lst, DL.recv_get, DL.recv_count, DL.recv_index, DL.keyOf_int, DL.keyOf_str, DL.appK_own, DL.extK_own, DL.setK_dic, DL.setK_lst, DL.isOwnL_own, DL.isOwn_own, DL.isi_ii, DL.isi_ib, DL.isi_tt, DL.isi_ss, DL.isi_ll, DL.isi_bi, DL.isi_bb, DL.isi_lt, DL.isi_tl, DL.at0, DL.at1, DL.at2, DL.last1, DL.last2, DL.last3, DL.at_ints, DL.encO_some, DL.encO_none, CRes.ok.injEq, D.bl.injEq, D.int.injEq, D.lst.injEq, D.tup.injEq, D.str.injEq, DL.ints_inj, Prod.mk.injEq, if_true, if_false, Bool.false_eq_true, Bool.true_eq_false, Bool.and_true, Bool.true_and, Bool.and_self, Bool.and_false, Bool.false_and, List.length_cons, List.length_nil, List.length_map, Nat.reduceAdd, Nat.reduceLeDiff, true_and, and_true, List.zip_cons_cons, List.zip_nil_right, List.foldl_cons, List.foldl_nil, bne_self_eq_false, Bool.bne_false, Bool.bne_true, Bool.not_false, Bool.not_true, Option.map_none, List.cons_append, List.nil_append, Nat.reduceLT, or_self, and_self, or_true, true_or, or_false, false_or, and_false, false_and, Int.cast_ofNat_Int, Int.reduceLT, Int.reduceLE, Int.reduceEq, Int.reduceNeg, Int.reduceAdd, Int.reduceSub, Int.reduceToNat, true_imp_iff, false_imp_iff, not_true_eq_false, not_false_eq_true, Bool.not_eq_true, Bool.not_eq_false, List.getElem?_cons_succ, List.getElem?_cons_zero, List.set_cons_zero, List.set_cons_succ, List.map_cons, List.map_nil, List.drop_zero, List.take_zero, DL.omap, DL.obind, eq_self, decide_true, decide_false, decide_eq_true_eq, decide_eq_false_iff_not, imp_false, Classical.not_not, reduceCtorEq, implies_true, *])
local macro_rules | `(tactic| walk_at "wi") => `(tactic| try simp (disch := first | assumption | omega) only [↓DL.H_ok, ↓DL.H_bind, ↓DL.H_opt, ↓DL.optK_some, ↓DL.optK_ite, ↓DL.condK_true, ↓DL.condK_false, ↓DL.condK_dec, ↓DL.condK_not, ↓DL.varK_fro, ↓DL.varK_own, ↓DL.callR_ok, ↓DL.callR_exc, ↓DL.e_var, ↓DL.e_glob, ↓DL.e_int, ↓DL.e_bl, ↓DL.e_str, ↓DL.e_non, ↓DL.e_bin, ↓DL.e_neg, ↓DL.H_asBl, ↓DL.e_not, ↓DL.e_and, ↓DL.e_or, ↓DL.e_and1, ↓DL.e_or1, ↓DL.H_if, ↓DL.e_and2, ↓DL.e_or2, ↓DL.e_cmp, ↓DL.e_chain, ↓DL.e_isN, ↓DL.e_isB, ↓DL.H_ite, ↓DL.e_tup, ↓DL.e_lst, ↓DL.e_dic0, ↓DL.e_fz0, ↓DL.e_fz, ↓DL.e_es0, ↓DL.e_es, ↓DL.e_ix, ↓DL.e_slice, ↓DL.e_o0, ↓DL.e_o, ↓DL.e_bi, ↓DL.e_isi, ↓DL.e_meth, ↓DL.e_call, ↓DL.e_revs, ↓DL.e_orT, ↓DL.e_setf, ↓DL.HO_out, ↓DL.x_nil, ↓DL.x_cons, ↓DL.HO_nx, ↓DL.HO_if, ↓DL.HO_ite, ↓DL.x_asg, ↓DL.x_expr, ↓DL.x_ret, ↓DL.x_pass, ↓DL.x_brk, ↓DL.x_raise, ↓DL.x_par, ↓DL.x_asgT, ↓DL.x_append', ↓DL.x_extend', ↓DL.x_setix', ↓DL.s_seq, ↓DL.s_rng1, ↓DL.s_rng2, ↓DL.s_enum, ↓DL.s_zip, ↓DL.c_none, ↓DL.c_some, DL.seqL_lst, DL.seqL_tup, DL.enumL_lst, DL.zipL_lst, DL.zipL_tup, DL.rngD_ok, DL.len_rangeI, DL.stK_mk, DL.put_fro, DL.put_fre, DL.put_bor, DL.fz_fro, DL.fz_fre, DL.fz_bor, DL.set_mk, DL.wipe_nil, DL.wipe_cons, DL.bindT_nm, DL.bindT_tp, DL.frz_mk, DL.frzC_own, DL.frzC_fro, DL.fzs_nil, DL.fzs_cons, DL.add_int, DL.add_lst, DL.add_tup, DL.sub_int, DL.mul_int, DL.mul_lst, DL.mul_tup, DL.fdiv_int, DL.md_int, DL.lt_int, DL.le_int, DL.gt_int, DL.ge_int, DL.eq_any, DL.ne_any, DL.isin_any, DL.notin_any, DL.blOf_bl, DL.intOf_int, DL.len_lst, DL.len_tup, DL.len_scr, DL.ix_lst, DL.ix_tup, DL.ix_scr, DL.ix_dic, DL.eq_int, DL.eq_lints, DL.eq_lints_nil, DL.scr_eq_nil, DL.imm_int, DL.imm_bl, DL.imm_non, DL.imm_str, DL.imm_lst, DL.imm_tup, DL.imms_nil, DL.imms_cons, DL.imms_ints, DL.own_fro, DL.own_fre, DL.own_bor, DL.ownB_own, DL.ownB_fro, DL.clOf_fro, DL.clOf_fre, DL.clOf_bor, DL.isNon_non, DL.isNon_int, DL.isNon_tup, DL.isNon_lst, DL.isNon_str, DL.slice_lst, DL.slice_tup, DL.list_lst, DL.list_tup, DL.tuple_lst, DL.tuple_tup, DL.sum_lst, DL.sum_tup, DL.all_lst, DL.max_int, DL.min_int, DL.abs_int, DL.int_bl, DL.int_int, DL.intsOf_map, DL.blsOf_map, DL.truD_lst, DL.setD_len, DL.setD_srt, DL.sorted_lst, DL.sorted_dic, DL.get1_dic, DL.get2_dic, DL.count_lst, DL.recv_get, DL.recv_count, DL.recv_index, DL.keyOf_int, DL.keyOf_str, DL.appK_own, DL.extK_own, DL.setK_dic, DL.setK_lst, DL.isOwnL_own, DL.isOwn_own, DL.isi_ii, DL.isi_ib, DL.isi_tt, DL.isi_ss, DL.isi_ll, DL.isi_bi, DL.isi_bb, DL.isi_lt, DL.isi_tl, DL.at0, DL.at1, DL.at2, DL.last1, DL.last2, DL.last3, DL.at_ints, DL.encO_some, DL.encO_none, CRes.ok.injEq, D.bl.injEq, D.int.injEq, D.lst.injEq, D.tup.injEq, D.str.injEq, DL.ints_inj, Prod.mk.injEq, if_true, if_false, Bool.false_eq_true, Bool.true_eq_false, Bool.and_true, Bool.true_and, Bool.and_self, Bool.and_false, Bool.false_and, List.length_cons, List.length_nil, List.length_map, Nat.reduceAdd, Nat.reduceLeDiff, true_and, and_true, List.zip_cons_cons, List.zip_nil_right, List.foldl_cons, List.foldl_nil, bne_self_eq_false, Bool.bne_false, Bool.bne_true, Bool.not_false, Bool.not_true, Option.map_none, List.cons_append, List.nil_append, Nat.reduceLT, or_self, and_self, or_true, true_or, or_false, false_or, and_false, false_and, Int.cast_ofNat_Int, Int.reduceLT, Int.reduceLE, Int.reduceEq, Int.reduceNeg, Int.reduceAdd, Int.reduceSub, Int.reduceToNat, true_imp_iff, false_imp_iff, not_true_eq_false, not_false_eq_true, Bool.not_eq_true, Bool.not_eq_false, List.getElem?_cons_succ, List.getElem?_cons_zero, List.set_cons_zero, List.set_cons_succ, List.map_cons, List.map_nil, List.drop_zero, List.take_zero, DL.omap, DL.obind, eq_self, decide_true, decide_false, decide_eq_true_eq, decide_eq_false_iff_not, imp_false, Classical.not_not, reduceCtorEq, implies_true])
local macro_rules | `(tactic| walk_at "wj") => `(tactic| try simp (disch := first | assumption | omega) only [↓DL.H_ok, ↓DL.H_bind, ↓DL.H_opt, ↓DL.optK_some, ↓DL.optK_ite, ↓DL.condK_true, ↓DL.condK_false, ↓DL.condK_dec, ↓DL.condK_not, ↓DL.varK_fro, ↓DL.varK_own, ↓DL.callR_ok, ↓DL.callR_exc, ↓DL.e_var, ↓DL.e_glob, ↓DL.e_int, ↓DL.e_bl, ↓DL.e_str, ↓DL.e_non, ↓DL.e_bin, ↓DL.e_neg, ↓DL.H_asBl, ↓DL.e_not, ↓DL.e_and, ↓DL.e_or, ↓DL.e_and1, ↓DL.e_or1, ↓DL.H_if, ↓DL.e_and2, ↓DL.e_or2, ↓DL.e_cmp, ↓DL.e_chain, ↓DL.e_isN, ↓DL.e_isB, ↓DL.H_ite, ↓DL.e_tup, ↓DL.e_lst, ↓DL.e_dic0, ↓DL.e_fz0, ↓DL.e_fz, ↓DL.e_es0, ↓DL.e_es, ↓DL.e_ix, ↓DL.e_slice, ↓DL.e_o0, ↓DL.e_o, ↓DL.e_bi, ↓DL.e_isi, ↓DL.e_meth, ↓DL.e_call, ↓DL.e_revs, ↓DL.e_orT, ↓DL.e_setf, ↓DL.HO_out, ↓DL.x_nil, ↓DL.x_cons, ↓DL.HO_nx, ↓DL.HO_if, ↓DL.HO_ite, ↓DL.x_asg, ↓DL.x_expr, ↓DL.x_ret, ↓DL.x_pass, ↓DL.x_brk, ↓DL.x_raise, ↓DL.x_par, ↓DL.x_asgT, ↓DL.x_append', ↓DL.x_extend', ↓DL.x_setix', ↓DL.s_seq, ↓DL.s_rng1, ↓DL.s_rng2, ↓DL.s_enum, ↓DL.s_zip, ↓DL.c_none, ↓DL.c_some, DL.seqL_lst, DL.seqL_tup, DL.enumL_lst, DL.zipL_lst, DL.zipL_tup, DL.rngD_ok, DL.len_rangeI, DL.stK_mk, DL.put_fro, DL.put_fre, DL.put_bor, DL.fz_fro, DL.fz_fre, DL.fz_bor, DL.set_mk, DL.wipe_nil, DL.wipe_cons, DL.bindT_nm, DL.bindT_tp, DL.frz_mk, DL.frzC_own, DL.frzC_fro, DL.fzs_nil, DL.fzs_cons, DL.add_int, DL.add_lst, DL.add_tup, DL.sub_int, DL.mul_int, DL.mul_lst, DL.mul_tup, DL.fdiv_int, DL.md_int, DL.lt_int, DL.le_int, DL.gt_int, DL.ge_int, DL.eq_any, DL.ne_any, DL.isin_any, DL.notin_any, DL.blOf_bl, DL.intOf_int, DL.len_lst, DL.len_tup, DL.len_scr, DL.ix_lst, DL.ix_tup, DL.ix_scr, DL.ix_dic, DL.eq_int, DL.eq_lints, DL.eq_lints_nil, DL.scr_eq_nil, DL.imm_int, DL.imm_bl, DL.imm_non, DL.imm_str, DL.imm_lst, DL.imm_tup, DL.imms_nil, DL.imms_cons, DL.imms_ints, DL.own_fro, DL.own_fre, DL.own_bor, DL.ownB_own, DL.ownB_fro, DL.clOf_fro, DL.clOf_fre, DL.clOf_bor, DL.isNon_non, DL.isNon_int, DL.isNon_tup, DL.isNon_lst, DL.isNon_str, DL.slice_lst, DL.slice_tup, DL.list_lst, DL.list_tup, DL.tuple_lst, DL.tuple_tup, DL.sum_lst, DL.sum_tup, DL.all_lst, DL.max_int, DL.min_int, DL.abs_int, DL.int_bl, DL.int_int, DL.intsOf_map, DL.blsOf_map, DL.truD_lst, DL.setD_len, DL.setD_srt, DL.sorted_lst, DL.sorted_dic, DL.get1_dic, DL.get2_dic, DL.count_lst, DL.recv_get, DL.recv_count, DL.recv_index, DL.keyOf_int, DL.keyOf_str, DL.appK_own, DL.extK_own, DL.setK_dic, DL.setK_lst, DL.isOwnL_own, DL.isOwn_own, DL.isi_ii, DL.isi_ib, DL.isi_tt, DL.isi_ss, DL.isi_ll, DL.isi_bi, DL.isi_bb, DL.isi_lt, DL.isi_tl, DL.at0, DL.at1, DL.at2, DL.last1, DL.last2, DL.last3, DL.at_ints, DL.encO_some, DL.encO_none, CRes.ok.injEq, D.bl.injEq, D.int.injEq, D.lst.injEq, D.tup.injEq, D.str.injEq, DL.ints_inj, Prod.mk.injEq, if_true, if_false, Bool.false_eq_true, Bool.true_eq_false, Bool.and_true, Bool.true_and, Bool.and_self, Bool.and_false, Bool.false_and, List.length_cons, List.length_nil, List.length_map, Nat.reduceAdd, Nat.reduceLeDiff, true_and, and_true, List.zip_cons_cons, List.zip_nil_right, List.foldl_cons, List.foldl_nil, bne_self_eq_false, Bool.bne_false, Bool.bne_true, Bool.not_false, Bool.not_true, Option.map_none, List.cons_append, List.nil_append, Nat.reduceLT, or_self, and_self, or_true, true_or, or_false, false_or, and_false, false_and, Int.cast_ofNat_Int, Int.reduceLT, Int.reduceLE, Int.reduceEq, Int.reduceNeg, Int.reduceAdd, Int.reduceSub, Int.reduceToNat, true_imp_iff, false_imp_iff, not_true_eq_false, not_false_eq_true, Bool.not_eq_true, Bool.not_eq_false, List.getElem?_cons_succ, List.getElem?_cons_zero, List.set_cons_zero, List.set_cons_succ, List.map_cons, List.map_nil, List.drop_zero, List.take_zero, DL.omap, DL.obind, eq_self, decide_true, decide_false, decide_eq_true_eq, decide_eq_false_iff_not, imp_false, Classical.not_not, reduceCtorEq, implies_true, *])
def cellM (ns : List Int) (k : Nat) : Int := if k < ns.length then ns.getD k 0 else if ns = [] then 0 else ns.getD (k % ns.length) 0 * 31 + k
theorem run_cell (n : Nat) (ns : List Int) (k : Nat) {w : List WObj} : run T (n + 1) kf_l_cell [.scr ns, .int k] w = .ok (.int (cellM ns k)) false w := by
  refine run_w T_l_cell rfl [.fro (.scr ns), .fro (.int k)] rfl ?_
  unfold fd_l_cell
  walk_at "wp"
  refine ⟨fun h => ?_, fun h => ⟨fun h2 => ?_, fun h2 => ?_⟩⟩
  · have h : k < ns.length := by omega
    rw [atI_nat h, List.getElem?_eq_getElem h]
    walk_at "wp"
    simp [cellM, h]
  · have h : ¬ k < ns.length := by omega
    simp [cellM, h, h2, ownK]
  · have h : ¬ k < ns.length := by omega
    have hl : 0 < ns.length := List.length_pos_iff.mpr h2
    have e : (k : Int) % (ns.length : Int) = ((k % ns.length : Nat) : Int) := by norm_cast
    have hk : k % ns.length < ns.length := Nat.mod_lt _ hl
    refine ⟨by omega, ?_⟩
    rw [e, atI_nat hk, List.getElem?_eq_getElem hk]
    walk_at "wp"
    simp [cellM, h, h2, hk]
def pk (ns : List Int) (k : Int) (m : Int) : Int :=
  let d := (cellM ns k.toNat + 6151 * (k + 1)) * 40692 % 2147483399
  (d * d + d / 31) % 2147483629 % m
theorem pk_lt (ns : List Int) (k : Int) {m : Int} (h : 0 < m) : 0 ≤ pk ns k m ∧ pk ns k m < m := ⟨Int.emod_nonneg _ (by omega), Int.emod_lt_of_pos _ h⟩
theorem run_pk {q : Nat} {ns : List Int} {k m : Int} {w : List WObj} (hq : 2 ≤ q) (hk : 0 ≤ k) (hm : 0 < m) : run T q kf_l_pick [.scr ns, .int k, .int m] w = .ok (.int (pk ns k m)) false w := by
  obtain ⟨n, rfl⟩ : ∃ n, q = n + 2 := ⟨q - 2, by omega⟩
  obtain ⟨k, rfl⟩ : ∃ k' : Nat, k = k' := ⟨k.toNat, by omega⟩
  refine run_w T_l_pick rfl [.fro (.scr ns), .fro (.int k), .fro (.int m), .un] rfl ?_
  unfold fd_l_pick
  walk_at "wp"
  simp only [run_cell]
  walk_at "wp"
  have h0 : 0 ≤ (cellM ns k + 6151 * ((k : Int) + 1)) * 40692 % 2147483399 := Int.emod_nonneg _ (by omega)
  have h1 : (cellM ns k + 6151 * ((k : Int) + 1)) * 40692 % 2147483399 < 2147483399 := Int.emod_lt_of_pos _ (by omega)
  exact ⟨⟨by omega, by omega⟩, hm, rfl⟩
/-! terms -/
inductive Tm where
  | at (n : Int) | of (t : Tm) | back (n : Int) (t : Tm) | rest (n : Int) (t : Tm)
  deriving DecidableEq
def Tm.enc : Tm → D
  | .at n => .tup [.str "at", .int n]
  | .of t => .tup [.str "of", t.enc]
  | .back n t => .tup [.str "back", .int n, t.enc]
  | .rest n t => .tup [.str "rest", .int n, t.enc]
def Tm.dep : Tm → Nat
  | .at _ => 1
  | .of t => t.dep + 1
  | .back _ t => t.dep + 1
  | .rest _ t => t.dep + 1
def Tm.isRest : Tm → Bool
  | .rest _ _ => true
  | _ => false
/-- the number at a place of a row, the places from 1 -/
def here (row : List Int) (p : Int) : Option Int := if 1 ≤ p ∧ p ≤ row.length then row[(p - 1).toNat]? else none
def numOf (r : Bool) (row : List Int) (p : Option Int) : Option Int := p.bind fun p => if r then some p else here row p
def Tm.place (row : List Int) : Tm → Option Int
  | .at n => some (row.length + 1 - n)
  | .of t => numOf t.isRest row (t.place row)
  | .back n t => (numOf t.isRest row (t.place row)).map fun i => row.length + 1 - n - i
  | .rest n t => (numOf t.isRest row (t.place row)).map fun i => row.length + 1 - n - i
def Tm.num (row : List Int) (t : Tm) : Option Int := numOf t.isRest row (t.place row)
theorem here_get {row : List Int} {p : Int} (h1 : 1 ≤ p) (h2 : p ≤ row.length) : here row p = some (row.getD (p - 1).toNat 0) := by
  have hk : (p - 1).toNat < row.length := by omega
  unfold here
  rw [if_pos ⟨h1, h2⟩, List.getD, List.getElem?_eq_getElem hk]
  rfl
theorem here_none {row : List Int} {p : Int} (h : ¬ (1 ≤ p ∧ p ≤ row.length)) : here row p = none := by
  unfold here
  rw [if_neg h]
/-! the words of terms, compared -/
theorem sq_at_at : eqD (.str "at") (.str "at") = some true := by decide +kernel
theorem sq_at_of : eqD (.str "at") (.str "of") = some false := by decide +kernel
theorem sq_at_back : eqD (.str "at") (.str "back") = some false := by decide +kernel
theorem sq_at_rest : eqD (.str "at") (.str "rest") = some false := by decide +kernel
theorem sq_of_at : eqD (.str "of") (.str "at") = some false := by decide +kernel
theorem sq_of_of : eqD (.str "of") (.str "of") = some true := by decide +kernel
theorem sq_of_back : eqD (.str "of") (.str "back") = some false := by decide +kernel
theorem sq_of_rest : eqD (.str "of") (.str "rest") = some false := by decide +kernel
theorem sq_back_at : eqD (.str "back") (.str "at") = some false := by decide +kernel
theorem sq_back_of : eqD (.str "back") (.str "of") = some false := by decide +kernel
theorem sq_back_back : eqD (.str "back") (.str "back") = some true := by decide +kernel
theorem sq_back_rest : eqD (.str "back") (.str "rest") = some false := by decide +kernel
theorem sq_rest_at : eqD (.str "rest") (.str "at") = some false := by decide +kernel
theorem sq_rest_of : eqD (.str "rest") (.str "of") = some false := by decide +kernel
theorem sq_rest_back : eqD (.str "rest") (.str "back") = some false := by decide +kernel
theorem sq_rest_rest : eqD (.str "rest") (.str "rest") = some true := by decide +kernel
theorem in_br : inD (.str "back") (.tup [.str "back", .str "rest"]) = some true := by decide +kernel
theorem in_rr : inD (.str "rest") (.tup [.str "back", .str "rest"]) = some true := by decide +kernel
local macro_rules | `(tactic| walk_at "wp") => `(tactic| try simp (disch := first | assumption | omega) only [↓DL.H_ok, ↓DL.H_bind, ↓DL.H_opt, ↓DL.optK_some, ↓DL.optK_ite, ↓DL.condK_true, ↓DL.condK_false, ↓DL.condK_dec, ↓DL.condK_not, ↓DL.varK_fro, ↓DL.varK_own, ↓DL.callR_ok, ↓DL.callR_exc, ↓DL.e_var, ↓DL.e_glob, ↓DL.e_int, ↓DL.e_bl, ↓DL.e_str, ↓DL.e_non, ↓DL.e_bin, ↓DL.e_neg, ↓DL.H_asBl, ↓DL.e_not, ↓DL.e_and, ↓DL.e_or, ↓DL.e_and1, ↓DL.e_or1, ↓DL.H_if, ↓DL.e_and2, ↓DL.e_or2, ↓DL.e_cmp, ↓DL.e_chain, ↓DL.e_isN, ↓DL.e_isB, ↓DL.e_ife, ↓DL.H_ite, ↓DL.e_tup, ↓DL.e_lst, ↓DL.e_dic0, ↓DL.e_fz0, ↓DL.e_fz, ↓DL.e_es0, ↓DL.e_es, ↓DL.e_ix, ↓DL.e_slice, ↓DL.e_o0, ↓DL.e_o, ↓DL.e_bi, ↓DL.e_isi, ↓DL.e_meth, ↓DL.e_call, ↓DL.e_revs, ↓DL.e_orT, ↓DL.e_setf, ↓DL.HO_out, ↓DL.x_nil, ↓DL.x_cons, ↓DL.HO_nx, ↓DL.HO_if, ↓DL.HO_ite, ↓DL.x_asg, ↓DL.x_expr, ↓DL.x_ret, ↓DL.x_ite, ↓DL.x_pass, ↓DL.x_brk, ↓DL.x_raise, ↓DL.x_par, ↓DL.x_asgT, ↓DL.x_append', ↓DL.x_extend', ↓DL.x_setix', ↓DL.s_seq, ↓DL.s_rng1, ↓DL.s_rng2, ↓DL.s_enum, ↓DL.s_zip, ↓DL.c_none, ↓DL.c_some, DL.seqL_lst, DL.seqL_tup, DL.enumL_lst, DL.zipL_lst, DL.zipL_tup, DL.rngD_ok, DL.len_rangeI, DL.stK_mk, DL.put_fro, DL.put_fre, DL.put_bor, DL.fz_fro, DL.fz_fre, DL.fz_bor, DL.set_mk, DL.wipe_nil, DL.wipe_cons, DL.bindT_nm, DL.bindT_tp, DL.frz_mk, DL.frzC_own, DL.frzC_fro, DL.fzs_nil, DL.fzs_cons, DL.add_int, DL.add_lst, DL.add_tup, DL.sub_int, DL.mul_int, DL.mul_lst, DL.mul_tup, DL.fdiv_int, DL.md_int, DL.lt_int, DL.le_int, DL.gt_int, DL.ge_int, DL.eq_any, DL.ne_any, DL.isin_any, DL.notin_any, DL.blOf_bl, DL.intOf_int, DL.len_lst, DL.len_tup, DL.len_scr, DL.ix_lst, DL.ix_tup, DL.ix_scr, DL.ix_dic, DL.eq_int, DL.eq_lints, DL.eq_lints_nil, DL.scr_eq_nil, DL.imm_int, DL.imm_bl, DL.imm_non, DL.imm_str, DL.imm_lst, DL.imm_tup, DL.imms_nil, DL.imms_cons, DL.imms_ints, DL.own_fro, DL.own_fre, DL.own_bor, DL.ownB_own, DL.ownB_fro, DL.clOf_fro, DL.clOf_fre, DL.clOf_bor, DL.isNon_non, DL.isNon_int, DL.isNon_tup, DL.isNon_lst, DL.isNon_str, DL.slice_lst, DL.slice_tup, DL.list_lst, DL.list_tup, DL.tuple_lst, DL.tuple_tup, DL.sum_lst, DL.sum_tup, DL.all_lst, DL.max_int, DL.min_int, DL.abs_int, DL.int_bl, DL.int_int, DL.intsOf_map, DL.blsOf_map, DL.truD_lst, DL.setD_len, DL.setD_srt, DL.sorted_lst, DL.sorted_dic, DL.get1_dic, DL.get2_dic, DL.count_lst, DL.recv_get, DL.recv_count, DL.recv_index, DL.keyOf_int, DL.keyOf_str, DL.appK_own, DL.extK_own, DL.setK_dic, DL.setK_lst, DL.isOwnL_own, DL.isOwn_own, DL.isi_ii, DL.isi_ib, DL.isi_tt, DL.isi_ss, DL.isi_ll, DL.isi_bi, DL.isi_bb, DL.isi_lt, DL.isi_tl, DL.at0, DL.at1, DL.at2, DL.last1, DL.last2, DL.last3, DL.at_ints, DL.encO_some, DL.encO_none, CRes.ok.injEq, D.bl.injEq, D.int.injEq, D.lst.injEq, D.tup.injEq, D.str.injEq, DL.ints_inj, Prod.mk.injEq, if_true, if_false, Bool.false_eq_true, Bool.true_eq_false, Bool.and_true, Bool.true_and, Bool.and_self, Bool.and_false, Bool.false_and, List.length_cons, List.length_nil, List.length_map, Nat.reduceAdd, Nat.reduceLeDiff, true_and, and_true, List.zip_cons_cons, List.zip_nil_right, List.foldl_cons, List.foldl_nil, bne_self_eq_false, Bool.bne_false, Bool.bne_true, Bool.not_false, Bool.not_true, Option.map_none, List.cons_append, List.nil_append, Nat.reduceLT, or_self, and_self, or_true, true_or, or_false, false_or, and_false, false_and, Int.cast_ofNat_Int, Int.reduceLT, Int.reduceLE, Int.reduceEq, Int.reduceNeg, Int.reduceAdd, Int.reduceSub, Int.reduceToNat, true_imp_iff, false_imp_iff, not_true_eq_false, not_false_eq_true, Bool.not_eq_true, Bool.not_eq_false, List.getElem?_cons_succ, List.getElem?_cons_zero, List.set_cons_zero, List.set_cons_succ, List.map_cons, List.map_nil, List.drop_zero, List.take_zero, DL.omap, DL.obind, eq_self, decide_true, decide_false, decide_eq_true_eq, decide_eq_false_iff_not, imp_false, Classical.not_not, reduceCtorEq, implies_true, DL.sq_at_at, DL.sq_at_of, DL.sq_at_back, DL.sq_at_rest, DL.sq_of_at, DL.sq_of_of, DL.sq_of_back, DL.sq_of_rest, DL.sq_back_at, DL.sq_back_of, DL.sq_back_back, DL.sq_back_rest, DL.sq_rest_at, DL.sq_rest_of, DL.sq_rest_back, DL.sq_rest_rest, DL.in_br, DL.in_rr])
local macro_rules | `(tactic| walk_at "ws") => `(tactic| try simp (disch := first | assumption | omega) only [↓DL.H_ok, ↓DL.H_bind, ↓DL.H_opt, ↓DL.optK_some, ↓DL.optK_ite, ↓DL.condK_true, ↓DL.condK_false, ↓DL.condK_dec, ↓DL.condK_not, ↓DL.varK_fro, ↓DL.varK_own, ↓DL.callR_ok, ↓DL.callR_exc, ↓DL.e_var, ↓DL.e_glob, ↓DL.e_int, ↓DL.e_bl, ↓DL.e_str, ↓DL.e_non, ↓DL.e_bin, ↓DL.e_neg, ↓DL.H_asBl, ↓DL.e_not, ↓DL.e_and, ↓DL.e_or, ↓DL.e_and1, ↓DL.e_or1, ↓DL.H_if, ↓DL.e_and2, ↓DL.e_or2, ↓DL.e_cmp, ↓DL.e_chain, ↓DL.e_isN, ↓DL.e_isB, ↓DL.e_ife, ↓DL.H_ite, ↓DL.e_tup, ↓DL.e_lst, ↓DL.e_dic0, ↓DL.e_fz0, ↓DL.e_fz, ↓DL.e_es0, ↓DL.e_es, ↓DL.e_ix, ↓DL.e_slice, ↓DL.e_o0, ↓DL.e_o, ↓DL.e_bi, ↓DL.e_isi, ↓DL.e_meth, ↓DL.e_call, ↓DL.e_revs, ↓DL.e_orT, ↓DL.e_setf, ↓DL.HO_out, ↓DL.x_nil, ↓DL.x_cons, ↓DL.HO_nx, ↓DL.HO_if, ↓DL.HO_ite, ↓DL.x_asg, ↓DL.x_expr, ↓DL.x_ret, ↓DL.x_ite, ↓DL.x_pass, ↓DL.x_brk, ↓DL.x_raise, ↓DL.x_par, ↓DL.x_asgT, ↓DL.x_append', ↓DL.x_extend', ↓DL.x_setix', ↓DL.s_seq, ↓DL.s_rng1, ↓DL.s_rng2, ↓DL.s_enum, ↓DL.s_zip, ↓DL.c_none, ↓DL.c_some, DL.seqL_lst, DL.seqL_tup, DL.enumL_lst, DL.zipL_lst, DL.zipL_tup, DL.rngD_ok, DL.len_rangeI, DL.stK_mk, DL.put_fro, DL.put_fre, DL.put_bor, DL.fz_fro, DL.fz_fre, DL.fz_bor, DL.set_mk, DL.wipe_nil, DL.wipe_cons, DL.bindT_nm, DL.bindT_tp, DL.frz_mk, DL.frzC_own, DL.frzC_fro, DL.fzs_nil, DL.fzs_cons, DL.add_int, DL.add_lst, DL.add_tup, DL.sub_int, DL.mul_int, DL.mul_lst, DL.mul_tup, DL.fdiv_int, DL.md_int, DL.lt_int, DL.le_int, DL.gt_int, DL.ge_int, DL.eq_any, DL.ne_any, DL.isin_any, DL.notin_any, DL.blOf_bl, DL.intOf_int, DL.len_lst, DL.len_tup, DL.len_scr, DL.ix_lst, DL.ix_tup, DL.ix_scr, DL.ix_dic, DL.eq_int, DL.eq_lints, DL.eq_lints_nil, DL.scr_eq_nil, DL.imm_int, DL.imm_bl, DL.imm_non, DL.imm_str, DL.imm_lst, DL.imm_tup, DL.imms_nil, DL.imms_cons, DL.imms_ints, DL.own_fro, DL.own_fre, DL.own_bor, DL.ownB_own, DL.ownB_fro, DL.clOf_fro, DL.clOf_fre, DL.clOf_bor, DL.isNon_non, DL.isNon_int, DL.isNon_tup, DL.isNon_lst, DL.isNon_str, DL.slice_lst, DL.slice_tup, DL.list_lst, DL.list_tup, DL.tuple_lst, DL.tuple_tup, DL.sum_lst, DL.sum_tup, DL.all_lst, DL.max_int, DL.min_int, DL.abs_int, DL.int_bl, DL.int_int, DL.intsOf_map, DL.blsOf_map, DL.truD_lst, DL.setD_len, DL.setD_srt, DL.sorted_lst, DL.sorted_dic, DL.get1_dic, DL.get2_dic, DL.count_lst, DL.recv_get, DL.recv_count, DL.recv_index, DL.keyOf_int, DL.keyOf_str, DL.appK_own, DL.extK_own, DL.setK_dic, DL.setK_lst, DL.isOwnL_own, DL.isOwn_own, DL.isi_ii, DL.isi_ib, DL.isi_tt, DL.isi_ss, DL.isi_ll, DL.isi_bi, DL.isi_bb, DL.isi_lt, DL.isi_tl, DL.at0, DL.at1, DL.at2, DL.last1, DL.last2, DL.last3, DL.at_ints, DL.encO_some, DL.encO_none, CRes.ok.injEq, D.bl.injEq, D.int.injEq, D.lst.injEq, D.tup.injEq, D.str.injEq, DL.ints_inj, Prod.mk.injEq, if_true, if_false, Bool.false_eq_true, Bool.true_eq_false, Bool.and_true, Bool.true_and, Bool.and_self, Bool.and_false, Bool.false_and, List.length_cons, List.length_nil, List.length_map, Nat.reduceAdd, Nat.reduceLeDiff, true_and, and_true, List.zip_cons_cons, List.zip_nil_right, List.foldl_cons, List.foldl_nil, bne_self_eq_false, Bool.bne_false, Bool.bne_true, Bool.not_false, Bool.not_true, Option.map_none, List.cons_append, List.nil_append, Nat.reduceLT, or_self, and_self, or_true, true_or, or_false, false_or, and_false, false_and, Int.cast_ofNat_Int, Int.reduceLT, Int.reduceLE, Int.reduceEq, Int.reduceNeg, Int.reduceAdd, Int.reduceSub, Int.reduceToNat, true_imp_iff, false_imp_iff, not_true_eq_false, not_false_eq_true, Bool.not_eq_true, Bool.not_eq_false, List.getElem?_cons_succ, List.getElem?_cons_zero, List.set_cons_zero, List.set_cons_succ, List.map_cons, List.map_nil, List.drop_zero, List.take_zero, DL.omap, DL.obind, eq_self, decide_true, decide_false, decide_eq_true_eq, decide_eq_false_iff_not, imp_false, Classical.not_not, reduceCtorEq, implies_true, DL.sq_at_at, DL.sq_at_of, DL.sq_at_back, DL.sq_at_rest, DL.sq_of_at, DL.sq_of_of, DL.sq_of_back, DL.sq_of_rest, DL.sq_back_at, DL.sq_back_of, DL.sq_back_back, DL.sq_back_rest, DL.sq_rest_at, DL.sq_rest_of, DL.sq_rest_back, DL.sq_rest_rest, DL.in_br, DL.in_rr, *])
local macro_rules | `(tactic| walk_at "wi") => `(tactic| try simp (disch := first | assumption | omega) only [↓DL.H_ok, ↓DL.H_bind, ↓DL.H_opt, ↓DL.optK_some, ↓DL.optK_ite, ↓DL.condK_true, ↓DL.condK_false, ↓DL.condK_dec, ↓DL.condK_not, ↓DL.varK_fro, ↓DL.varK_own, ↓DL.callR_ok, ↓DL.callR_exc, ↓DL.e_var, ↓DL.e_glob, ↓DL.e_int, ↓DL.e_bl, ↓DL.e_str, ↓DL.e_non, ↓DL.e_bin, ↓DL.e_neg, ↓DL.H_asBl, ↓DL.e_not, ↓DL.e_and, ↓DL.e_or, ↓DL.e_and1, ↓DL.e_or1, ↓DL.H_if, ↓DL.e_and2, ↓DL.e_or2, ↓DL.e_cmp, ↓DL.e_chain, ↓DL.e_isN, ↓DL.e_isB, ↓DL.H_ite, ↓DL.e_tup, ↓DL.e_lst, ↓DL.e_dic0, ↓DL.e_fz0, ↓DL.e_fz, ↓DL.e_es0, ↓DL.e_es, ↓DL.e_ix, ↓DL.e_slice, ↓DL.e_o0, ↓DL.e_o, ↓DL.e_bi, ↓DL.e_isi, ↓DL.e_meth, ↓DL.e_call, ↓DL.e_revs, ↓DL.e_orT, ↓DL.e_setf, ↓DL.HO_out, ↓DL.x_nil, ↓DL.x_cons, ↓DL.HO_nx, ↓DL.HO_if, ↓DL.HO_ite, ↓DL.x_asg, ↓DL.x_expr, ↓DL.x_ret, ↓DL.x_pass, ↓DL.x_brk, ↓DL.x_raise, ↓DL.x_par, ↓DL.x_asgT, ↓DL.x_append', ↓DL.x_extend', ↓DL.x_setix', ↓DL.s_seq, ↓DL.s_rng1, ↓DL.s_rng2, ↓DL.s_enum, ↓DL.s_zip, ↓DL.c_none, ↓DL.c_some, DL.seqL_lst, DL.seqL_tup, DL.enumL_lst, DL.zipL_lst, DL.zipL_tup, DL.rngD_ok, DL.len_rangeI, DL.stK_mk, DL.put_fro, DL.put_fre, DL.put_bor, DL.fz_fro, DL.fz_fre, DL.fz_bor, DL.set_mk, DL.wipe_nil, DL.wipe_cons, DL.bindT_nm, DL.bindT_tp, DL.frz_mk, DL.frzC_own, DL.frzC_fro, DL.fzs_nil, DL.fzs_cons, DL.add_int, DL.add_lst, DL.add_tup, DL.sub_int, DL.mul_int, DL.mul_lst, DL.mul_tup, DL.fdiv_int, DL.md_int, DL.lt_int, DL.le_int, DL.gt_int, DL.ge_int, DL.eq_any, DL.ne_any, DL.isin_any, DL.notin_any, DL.blOf_bl, DL.intOf_int, DL.len_lst, DL.len_tup, DL.len_scr, DL.ix_lst, DL.ix_tup, DL.ix_scr, DL.ix_dic, DL.eq_int, DL.eq_lints, DL.eq_lints_nil, DL.scr_eq_nil, DL.imm_int, DL.imm_bl, DL.imm_non, DL.imm_str, DL.imm_lst, DL.imm_tup, DL.imms_nil, DL.imms_cons, DL.imms_ints, DL.own_fro, DL.own_fre, DL.own_bor, DL.ownB_own, DL.ownB_fro, DL.clOf_fro, DL.clOf_fre, DL.clOf_bor, DL.isNon_non, DL.isNon_int, DL.isNon_tup, DL.isNon_lst, DL.isNon_str, DL.slice_lst, DL.slice_tup, DL.list_lst, DL.list_tup, DL.tuple_lst, DL.tuple_tup, DL.sum_lst, DL.sum_tup, DL.all_lst, DL.max_int, DL.min_int, DL.abs_int, DL.int_bl, DL.int_int, DL.intsOf_map, DL.blsOf_map, DL.truD_lst, DL.setD_len, DL.setD_srt, DL.sorted_lst, DL.sorted_dic, DL.get1_dic, DL.get2_dic, DL.count_lst, DL.recv_get, DL.recv_count, DL.recv_index, DL.keyOf_int, DL.keyOf_str, DL.appK_own, DL.extK_own, DL.setK_dic, DL.setK_lst, DL.isOwnL_own, DL.isOwn_own, DL.isi_ii, DL.isi_ib, DL.isi_tt, DL.isi_ss, DL.isi_ll, DL.isi_bi, DL.isi_bb, DL.isi_lt, DL.isi_tl, DL.at0, DL.at1, DL.at2, DL.last1, DL.last2, DL.last3, DL.at_ints, DL.encO_some, DL.encO_none, CRes.ok.injEq, D.bl.injEq, D.int.injEq, D.lst.injEq, D.tup.injEq, D.str.injEq, DL.ints_inj, Prod.mk.injEq, if_true, if_false, Bool.false_eq_true, Bool.true_eq_false, Bool.and_true, Bool.true_and, Bool.and_self, Bool.and_false, Bool.false_and, List.length_cons, List.length_nil, List.length_map, Nat.reduceAdd, Nat.reduceLeDiff, true_and, and_true, List.zip_cons_cons, List.zip_nil_right, List.foldl_cons, List.foldl_nil, bne_self_eq_false, Bool.bne_false, Bool.bne_true, Bool.not_false, Bool.not_true, Option.map_none, List.cons_append, List.nil_append, Nat.reduceLT, or_self, and_self, or_true, true_or, or_false, false_or, and_false, false_and, Int.cast_ofNat_Int, Int.reduceLT, Int.reduceLE, Int.reduceEq, Int.reduceNeg, Int.reduceAdd, Int.reduceSub, Int.reduceToNat, true_imp_iff, false_imp_iff, not_true_eq_false, not_false_eq_true, Bool.not_eq_true, Bool.not_eq_false, List.getElem?_cons_succ, List.getElem?_cons_zero, List.set_cons_zero, List.set_cons_succ, List.map_cons, List.map_nil, List.drop_zero, List.take_zero, DL.omap, DL.obind, eq_self, decide_true, decide_false, decide_eq_true_eq, decide_eq_false_iff_not, imp_false, Classical.not_not, reduceCtorEq, implies_true, DL.sq_at_at, DL.sq_at_of, DL.sq_at_back, DL.sq_at_rest, DL.sq_of_at, DL.sq_of_of, DL.sq_of_back, DL.sq_of_rest, DL.sq_back_at, DL.sq_back_of, DL.sq_back_back, DL.sq_back_rest, DL.sq_rest_at, DL.sq_rest_of, DL.sq_rest_back, DL.sq_rest_rest, DL.in_br, DL.in_rr])
local macro_rules | `(tactic| walk_at "wj") => `(tactic| try simp (disch := first | assumption | omega) only [↓DL.H_ok, ↓DL.H_bind, ↓DL.H_opt, ↓DL.optK_some, ↓DL.optK_ite, ↓DL.condK_true, ↓DL.condK_false, ↓DL.condK_dec, ↓DL.condK_not, ↓DL.varK_fro, ↓DL.varK_own, ↓DL.callR_ok, ↓DL.callR_exc, ↓DL.e_var, ↓DL.e_glob, ↓DL.e_int, ↓DL.e_bl, ↓DL.e_str, ↓DL.e_non, ↓DL.e_bin, ↓DL.e_neg, ↓DL.H_asBl, ↓DL.e_not, ↓DL.e_and, ↓DL.e_or, ↓DL.e_and1, ↓DL.e_or1, ↓DL.H_if, ↓DL.e_and2, ↓DL.e_or2, ↓DL.e_cmp, ↓DL.e_chain, ↓DL.e_isN, ↓DL.e_isB, ↓DL.H_ite, ↓DL.e_tup, ↓DL.e_lst, ↓DL.e_dic0, ↓DL.e_fz0, ↓DL.e_fz, ↓DL.e_es0, ↓DL.e_es, ↓DL.e_ix, ↓DL.e_slice, ↓DL.e_o0, ↓DL.e_o, ↓DL.e_bi, ↓DL.e_isi, ↓DL.e_meth, ↓DL.e_call, ↓DL.e_revs, ↓DL.e_orT, ↓DL.e_setf, ↓DL.HO_out, ↓DL.x_nil, ↓DL.x_cons, ↓DL.HO_nx, ↓DL.HO_if, ↓DL.HO_ite, ↓DL.x_asg, ↓DL.x_expr, ↓DL.x_ret, ↓DL.x_pass, ↓DL.x_brk, ↓DL.x_raise, ↓DL.x_par, ↓DL.x_asgT, ↓DL.x_append', ↓DL.x_extend', ↓DL.x_setix', ↓DL.s_seq, ↓DL.s_rng1, ↓DL.s_rng2, ↓DL.s_enum, ↓DL.s_zip, ↓DL.c_none, ↓DL.c_some, DL.seqL_lst, DL.seqL_tup, DL.enumL_lst, DL.zipL_lst, DL.zipL_tup, DL.rngD_ok, DL.len_rangeI, DL.stK_mk, DL.put_fro, DL.put_fre, DL.put_bor, DL.fz_fro, DL.fz_fre, DL.fz_bor, DL.set_mk, DL.wipe_nil, DL.wipe_cons, DL.bindT_nm, DL.bindT_tp, DL.frz_mk, DL.frzC_own, DL.frzC_fro, DL.fzs_nil, DL.fzs_cons, DL.add_int, DL.add_lst, DL.add_tup, DL.sub_int, DL.mul_int, DL.mul_lst, DL.mul_tup, DL.fdiv_int, DL.md_int, DL.lt_int, DL.le_int, DL.gt_int, DL.ge_int, DL.eq_any, DL.ne_any, DL.isin_any, DL.notin_any, DL.blOf_bl, DL.intOf_int, DL.len_lst, DL.len_tup, DL.len_scr, DL.ix_lst, DL.ix_tup, DL.ix_scr, DL.ix_dic, DL.eq_int, DL.eq_lints, DL.eq_lints_nil, DL.scr_eq_nil, DL.imm_int, DL.imm_bl, DL.imm_non, DL.imm_str, DL.imm_lst, DL.imm_tup, DL.imms_nil, DL.imms_cons, DL.imms_ints, DL.own_fro, DL.own_fre, DL.own_bor, DL.ownB_own, DL.ownB_fro, DL.clOf_fro, DL.clOf_fre, DL.clOf_bor, DL.isNon_non, DL.isNon_int, DL.isNon_tup, DL.isNon_lst, DL.isNon_str, DL.slice_lst, DL.slice_tup, DL.list_lst, DL.list_tup, DL.tuple_lst, DL.tuple_tup, DL.sum_lst, DL.sum_tup, DL.all_lst, DL.max_int, DL.min_int, DL.abs_int, DL.int_bl, DL.int_int, DL.intsOf_map, DL.blsOf_map, DL.truD_lst, DL.setD_len, DL.setD_srt, DL.sorted_lst, DL.sorted_dic, DL.get1_dic, DL.get2_dic, DL.count_lst, DL.recv_get, DL.recv_count, DL.recv_index, DL.keyOf_int, DL.keyOf_str, DL.appK_own, DL.extK_own, DL.setK_dic, DL.setK_lst, DL.isOwnL_own, DL.isOwn_own, DL.isi_ii, DL.isi_ib, DL.isi_tt, DL.isi_ss, DL.isi_ll, DL.isi_bi, DL.isi_bb, DL.isi_lt, DL.isi_tl, DL.at0, DL.at1, DL.at2, DL.last1, DL.last2, DL.last3, DL.at_ints, DL.encO_some, DL.encO_none, CRes.ok.injEq, D.bl.injEq, D.int.injEq, D.lst.injEq, D.tup.injEq, D.str.injEq, DL.ints_inj, Prod.mk.injEq, if_true, if_false, Bool.false_eq_true, Bool.true_eq_false, Bool.and_true, Bool.true_and, Bool.and_self, Bool.and_false, Bool.false_and, List.length_cons, List.length_nil, List.length_map, Nat.reduceAdd, Nat.reduceLeDiff, true_and, and_true, List.zip_cons_cons, List.zip_nil_right, List.foldl_cons, List.foldl_nil, bne_self_eq_false, Bool.bne_false, Bool.bne_true, Bool.not_false, Bool.not_true, Option.map_none, List.cons_append, List.nil_append, Nat.reduceLT, or_self, and_self, or_true, true_or, or_false, false_or, and_false, false_and, Int.cast_ofNat_Int, Int.reduceLT, Int.reduceLE, Int.reduceEq, Int.reduceNeg, Int.reduceAdd, Int.reduceSub, Int.reduceToNat, true_imp_iff, false_imp_iff, not_true_eq_false, not_false_eq_true, Bool.not_eq_true, Bool.not_eq_false, List.getElem?_cons_succ, List.getElem?_cons_zero, List.set_cons_zero, List.set_cons_succ, List.map_cons, List.map_nil, List.drop_zero, List.take_zero, DL.omap, DL.obind, eq_self, decide_true, decide_false, decide_eq_true_eq, decide_eq_false_iff_not, imp_false, Classical.not_not, reduceCtorEq, implies_true, DL.sq_at_at, DL.sq_at_of, DL.sq_at_back, DL.sq_at_rest, DL.sq_of_at, DL.sq_of_of, DL.sq_of_back, DL.sq_of_rest, DL.sq_back_at, DL.sq_back_of, DL.sq_back_back, DL.sq_back_rest, DL.sq_rest_at, DL.sq_rest_of, DL.sq_rest_back, DL.sq_rest_rest, DL.in_br, DL.in_rr, *])
theorem run_number_of {n : Nat} {row : List Int} {t : Tm} {w : List WObj} (h : run T n kf_p_place_of [t.enc, .lst (row.map .int)] w = .ok (encO (t.place row)) false w) : run T (n + 1) kf_p_number_of [t.enc, .lst (row.map .int)] w = .ok (encO (t.num row)) false w := by
  refine run_w T_p_number_of rfl [.fro t.enc, .fro (.lst (row.map .int)), .un] rfl ?_
  unfold fd_p_number_of
  walk_at "wp"
  simp only [h]
  walk_at "wp"
  cases q : t.place row with
  | none =>
    walk_at "wp"
    simp [Tm.num, q, numOf, encO]
  | some p =>
    walk_at "wp"
    have fin : ∀ b : Bool, t.isRest = b → encO (t.num row) = if b then .int p else encO (here row p) := fun b hb => by
      simp only [Tm.num, q, numOf, hb, Option.bind_some]
      cases b <;> simp [encO]
    cases t with
    | rest m u =>
      simp only [Tm.enc] at *
      walk_at "wp"
      exact fin true rfl
    | _ =>
      have fin := fin false rfl
      simp only [Tm.enc] at *
      walk_at "wp"
      refine ⟨fun h1 => ⟨fun h2 => ?_, fun h2 => ?_⟩, fun h1 => ?_⟩
      · rw [fin, here_get h1 h2]
        walk_at "wp"
      · rw [fin, here_none (by omega)]; rfl
      · rw [fin, here_none (by omega)]; rfl
theorem run_place (row : List Int) {w : List WObj} : ∀ (t : Tm) (n : Nat), run T (n + 2 * t.dep) kf_p_place_of [t.enc, .lst (row.map .int)] w = .ok (encO (t.place row)) false w
  | .at m, n => by
    refine run_w T_p_place_of rfl [.fro (Tm.enc (.at m)), .fro (.lst (row.map .int)), .un, .un] rfl ?_
    unfold fd_p_place_of
    simp only [Tm.enc]
    walk_at "wp"
    simp [Tm.place, encO]
  | .of t, n => by
    have ih := run_number_of (run_place row (w := w) t n)
    refine run_w (n := n + 2 * t.dep + 1) T_p_place_of rfl [.fro (Tm.enc (.of t)), .fro (.lst (row.map .int)), .un, .un] rfl ?_
    unfold fd_p_place_of
    simp only [Tm.enc]
    walk_at "wp"
    simp only [ih]
    rw [show Tm.place row t.of = t.num row by simp only [Tm.place, Tm.num]]
    cases t.num row <;> walk_at "wp"
  | .back m t, n => by
    have ih := run_number_of (run_place row (w := w) t n)
    refine run_w (n := n + 2 * t.dep + 1) T_p_place_of rfl [.fro (Tm.enc (.back m t)), .fro (.lst (row.map .int)), .un, .un] rfl ?_
    unfold fd_p_place_of
    simp only [Tm.enc]
    walk_at "wp"
    simp only [ih]
    rw [show Tm.place row (.back m t) = (t.num row).map fun i => row.length + 1 - m - i by simp only [Tm.place, Tm.num]]
    cases t.num row <;> walk_at "wp"
  | .rest m t, n => by
    have ih := run_number_of (run_place row (w := w) t n)
    refine run_w (n := n + 2 * t.dep + 1) T_p_place_of rfl [.fro (Tm.enc (.rest m t)), .fro (.lst (row.map .int)), .un, .un] rfl ?_
    unfold fd_p_place_of
    simp only [Tm.enc]
    walk_at "wp"
    simp only [ih]
    rw [show Tm.place row (.rest m t) = (t.num row).map fun i => row.length + 1 - m - i by simp only [Tm.place, Tm.num]]
    cases t.num row <;> walk_at "wp"
theorem run_num {row : List Int} {t : Tm} {m : Nat} {w : List WObj} (h : 2 * t.dep + 1 ≤ m) : run T m kf_p_number_of [t.enc, .lst (row.map .int)] w = .ok (encO (t.num row)) false w := by
  obtain ⟨n, rfl⟩ : ∃ n, m = n + 2 * t.dep + 1 := ⟨m - (2 * t.dep + 1), by omega⟩
  exact run_number_of (run_place row t n)
theorem run_pl {row : List Int} {t : Tm} {m : Nat} {w : List WObj} (h : 2 * t.dep ≤ m) : run T m kf_p_place_of [t.enc, .lst (row.map .int)] w = .ok (encO (t.place row)) false w := by
  obtain ⟨n, rfl⟩ : ∃ n, m = n + 2 * t.dep := ⟨m - 2 * t.dep, by omega⟩
  exact run_place row t n
/-! rules -/
structure Ru where
  first : List Int
  more : Int
  terms : List Tm
  deriving DecidableEq
def Ru.enc (r : Ru) : D := .tup [.tup (r.first.map .int), .int r.more, .tup (r.terms.map Tm.enc)]
theorem imm_enc : ∀ t : Tm, imm t.enc = true
  | .at _ => by simp [Tm.enc, imm, imms]
  | .of t => by simp [Tm.enc, imm, imms, imm_enc t]
  | .back _ t => by simp [Tm.enc, imm, imms, imm_enc t]
  | .rest _ t => by simp [Tm.enc, imm, imms, imm_enc t]
theorem imms_enc : ∀ ts : List Tm, imms (ts.map Tm.enc) = true
  | [] => by simp [imms]
  | a :: r => by simp [imms, imm_enc a, imms_enc r]
theorem imm_ru (r : Ru) : imm r.enc = true := by simp [Ru.enc, imm, imms, imms_ints, imms_enc]
theorem imm_encO : ∀ a : Option Int, imm (encO a) = true
  | none => by simp [encO, imm]
  | some i => by simp [encO, imm]
def allSome : List (Option Int) → Option (List Int)
  | [] => some []
  | none :: _ => none
  | some a :: r => (allSome r).map (a :: ·)
def Ru.next (r : Ru) (row : List Int) : Option Int := (allSome (r.terms.map (Tm.num row))).map fun xs => r.more + xs.sum
def Ru.from (r : Ru) : Nat → List Int → List Int
  | 0, row => row
  | k + 1, row => match r.next row with
    | none => row
    | some x => Ru.from r k (row ++ [x])
def Ru.row (r : Ru) (many : Nat) : List Int := r.from (many - r.first.length) (r.first.take many)
theorem allSome_none : ∀ {xs : List (Option Int)}, allSome xs = none → none ∈ xs
  | none :: _, _ => by simp
  | some a :: r, h => by
    have h : (allSome r).map (a :: ·) = none := h
    have := allSome_none (xs := r) (by simpa using h)
    simpa using this
theorem allSome_some : ∀ {xs : List (Option Int)} {ys : List Int}, allSome xs = some ys → xs = ys.map some
  | [], ys, h => by cases h; rfl
  | none :: _, ys, h => by cases h
  | some a :: r, ys, h => by
    have h : (allSome r).map (a :: ·) = some ys := h
    cases q : allSome r with
    | none => rw [q] at h; cases h
    | some zs =>
      rw [q] at h
      cases h
      rw [allSome_some q]
      rfl
theorem nices_encO (n : Nat) : ∀ xs : List (Option Int), nices n (xs.map encO) = true
  | [] => by simp [nices]
  | a :: r => by simp [nices, nices_encO n r, nice_encO]
theorem toPys_any (xs : List (Option Int)) : ((toPys (xs.map encO)).any fun z => PyData.eqv z .none) = decide (none ∈ xs) := by
  induction xs with
  | nil => simp [toPys]
  | cons a r ih =>
    simp only [List.map_cons, toPys, List.any_cons, ih]
    cases a <;> simp [encO, toPy, PyData.eqv]
theorem none_in {xs : List (Option Int)} : inD .non (.lst (xs.map encO)) = some (decide (none ∈ xs)) := by
  simp only [inD]
  rw [okPy_nice (n := 0) (by simp [nice]) (by decide), okPy_nice (n := 1) (by simp [nice, nices_encO]) (by decide)]
  simp only [Bool.and_self, if_true, toPy, toPys_any]
theorem intsOf_encO {ys : List Int} : intsOf ((ys.map some).map encO) = some ys := by
  rw [List.map_map]
  exact intsOf_map ys
local macro_rules | `(tactic| walk_at "wp") => `(tactic| try simp (disch := first | assumption | omega) only [↓DL.H_ok, ↓DL.H_bind, ↓DL.H_opt, ↓DL.optK_some, ↓DL.optK_ite, ↓DL.condK_true, ↓DL.condK_false, ↓DL.condK_dec, ↓DL.condK_not, ↓DL.varK_fro, ↓DL.varK_own, ↓DL.callR_ok, ↓DL.callR_exc, ↓DL.e_var, ↓DL.e_glob, ↓DL.e_int, ↓DL.e_bl, ↓DL.e_str, ↓DL.e_non, ↓DL.e_bin, ↓DL.e_neg, ↓DL.H_asBl, ↓DL.e_not, ↓DL.e_and, ↓DL.e_or, ↓DL.e_and1, ↓DL.e_or1, ↓DL.H_if, ↓DL.e_and2, ↓DL.e_or2, ↓DL.e_cmp, ↓DL.e_chain, ↓DL.e_isN, ↓DL.e_isB, ↓DL.e_ife, ↓DL.H_ite, ↓DL.e_tup, ↓DL.e_lst, ↓DL.e_dic0, ↓DL.e_fz0, ↓DL.e_fz, ↓DL.e_es0, ↓DL.e_es, ↓DL.e_ix, ↓DL.e_slice, ↓DL.e_o0, ↓DL.e_o, ↓DL.e_bi, ↓DL.e_isi, ↓DL.e_meth, ↓DL.e_call, ↓DL.e_revs, ↓DL.e_orT, ↓DL.e_setf, ↓DL.HO_out, ↓DL.x_nil, ↓DL.x_cons, ↓DL.HO_nx, ↓DL.HO_if, ↓DL.HO_ite, ↓DL.x_asg, ↓DL.x_expr, ↓DL.x_ret, ↓DL.x_ite, ↓DL.x_pass, ↓DL.x_brk, ↓DL.x_raise, ↓DL.x_par, ↓DL.x_asgT, ↓DL.x_append', ↓DL.x_extend', ↓DL.x_setix', ↓DL.s_seq, ↓DL.s_rng1, ↓DL.s_rng2, ↓DL.s_enum, ↓DL.s_zip, ↓DL.c_none, ↓DL.c_some, DL.seqL_lst, DL.seqL_tup, DL.enumL_lst, DL.zipL_lst, DL.zipL_tup, DL.rngD_ok, DL.len_rangeI, DL.stK_mk, DL.put_fro, DL.put_fre, DL.put_bor, DL.fz_fro, DL.fz_fre, DL.fz_bor, DL.set_mk, DL.wipe_nil, DL.wipe_cons, DL.bindT_nm, DL.bindT_tp, DL.frz_mk, DL.frzC_own, DL.frzC_fro, DL.fzs_nil, DL.fzs_cons, DL.add_int, DL.add_lst, DL.add_tup, DL.sub_int, DL.mul_int, DL.mul_lst, DL.mul_tup, DL.fdiv_int, DL.md_int, DL.lt_int, DL.le_int, DL.gt_int, DL.ge_int, DL.eq_any, DL.ne_any, DL.isin_any, DL.notin_any, DL.blOf_bl, DL.intOf_int, DL.len_lst, DL.len_tup, DL.len_scr, DL.ix_lst, DL.ix_tup, DL.ix_scr, DL.ix_dic, DL.eq_int, DL.eq_lints, DL.eq_lints_nil, DL.scr_eq_nil, DL.imm_int, DL.imm_bl, DL.imm_non, DL.imm_str, DL.imm_lst, DL.imm_tup, DL.imms_nil, DL.imms_cons, DL.imms_ints, DL.own_fro, DL.own_fre, DL.own_bor, DL.ownB_own, DL.ownB_fro, DL.clOf_fro, DL.clOf_fre, DL.clOf_bor, DL.isNon_non, DL.isNon_int, DL.isNon_tup, DL.isNon_lst, DL.isNon_str, DL.slice_lst, DL.slice_tup, DL.list_lst, DL.list_tup, DL.tuple_lst, DL.tuple_tup, DL.sum_lst, DL.sum_tup, DL.all_lst, DL.max_int, DL.min_int, DL.abs_int, DL.int_bl, DL.int_int, DL.intsOf_map, DL.blsOf_map, DL.truD_lst, DL.setD_len, DL.setD_srt, DL.sorted_lst, DL.sorted_dic, DL.get1_dic, DL.get2_dic, DL.count_lst, DL.recv_get, DL.recv_count, DL.recv_index, DL.keyOf_int, DL.keyOf_str, DL.appK_own, DL.extK_own, DL.setK_dic, DL.setK_lst, DL.isOwnL_own, DL.isOwn_own, DL.isi_ii, DL.isi_ib, DL.isi_tt, DL.isi_ss, DL.isi_ll, DL.isi_bi, DL.isi_bb, DL.isi_lt, DL.isi_tl, DL.at0, DL.at1, DL.at2, DL.last1, DL.last2, DL.last3, DL.at_ints, DL.encO_some, DL.encO_none, CRes.ok.injEq, D.bl.injEq, D.int.injEq, D.lst.injEq, D.tup.injEq, D.str.injEq, DL.ints_inj, Prod.mk.injEq, if_true, if_false, Bool.false_eq_true, Bool.true_eq_false, Bool.and_true, Bool.true_and, Bool.and_self, Bool.and_false, Bool.false_and, List.length_cons, List.length_nil, List.length_map, Nat.reduceAdd, Nat.reduceLeDiff, true_and, and_true, List.zip_cons_cons, List.zip_nil_right, List.foldl_cons, List.foldl_nil, bne_self_eq_false, Bool.bne_false, Bool.bne_true, Bool.not_false, Bool.not_true, Option.map_none, List.cons_append, List.nil_append, Nat.reduceLT, or_self, and_self, or_true, true_or, or_false, false_or, and_false, false_and, Int.cast_ofNat_Int, Int.reduceLT, Int.reduceLE, Int.reduceEq, Int.reduceNeg, Int.reduceAdd, Int.reduceSub, Int.reduceToNat, true_imp_iff, false_imp_iff, not_true_eq_false, not_false_eq_true, Bool.not_eq_true, Bool.not_eq_false, List.getElem?_cons_succ, List.getElem?_cons_zero, List.set_cons_zero, List.set_cons_succ, List.map_cons, List.map_nil, List.drop_zero, List.take_zero, DL.omap, DL.obind, eq_self, decide_true, decide_false, decide_eq_true_eq, decide_eq_false_iff_not, imp_false, Classical.not_not, reduceCtorEq, implies_true, DL.sq_at_at, DL.sq_at_of, DL.sq_at_back, DL.sq_at_rest, DL.sq_of_at, DL.sq_of_of, DL.sq_of_back, DL.sq_of_rest, DL.sq_back_at, DL.sq_back_of, DL.sq_back_back, DL.sq_back_rest, DL.sq_rest_at, DL.sq_rest_of, DL.sq_rest_back, DL.sq_rest_rest, DL.in_br, DL.in_rr, DL.none_in, DL.imm_ru, DL.imm_enc, DL.imm_encO, DL.intsOf_encO])
local macro_rules | `(tactic| walk_at "ws") => `(tactic| try simp (disch := first | assumption | omega) only [↓DL.H_ok, ↓DL.H_bind, ↓DL.H_opt, ↓DL.optK_some, ↓DL.optK_ite, ↓DL.condK_true, ↓DL.condK_false, ↓DL.condK_dec, ↓DL.condK_not, ↓DL.varK_fro, ↓DL.varK_own, ↓DL.callR_ok, ↓DL.callR_exc, ↓DL.e_var, ↓DL.e_glob, ↓DL.e_int, ↓DL.e_bl, ↓DL.e_str, ↓DL.e_non, ↓DL.e_bin, ↓DL.e_neg, ↓DL.H_asBl, ↓DL.e_not, ↓DL.e_and, ↓DL.e_or, ↓DL.e_and1, ↓DL.e_or1, ↓DL.H_if, ↓DL.e_and2, ↓DL.e_or2, ↓DL.e_cmp, ↓DL.e_chain, ↓DL.e_isN, ↓DL.e_isB, ↓DL.e_ife, ↓DL.H_ite, ↓DL.e_tup, ↓DL.e_lst, ↓DL.e_dic0, ↓DL.e_fz0, ↓DL.e_fz, ↓DL.e_es0, ↓DL.e_es, ↓DL.e_ix, ↓DL.e_slice, ↓DL.e_o0, ↓DL.e_o, ↓DL.e_bi, ↓DL.e_isi, ↓DL.e_meth, ↓DL.e_call, ↓DL.e_revs, ↓DL.e_orT, ↓DL.e_setf, ↓DL.HO_out, ↓DL.x_nil, ↓DL.x_cons, ↓DL.HO_nx, ↓DL.HO_if, ↓DL.HO_ite, ↓DL.x_asg, ↓DL.x_expr, ↓DL.x_ret, ↓DL.x_ite, ↓DL.x_pass, ↓DL.x_brk, ↓DL.x_raise, ↓DL.x_par, ↓DL.x_asgT, ↓DL.x_append', ↓DL.x_extend', ↓DL.x_setix', ↓DL.s_seq, ↓DL.s_rng1, ↓DL.s_rng2, ↓DL.s_enum, ↓DL.s_zip, ↓DL.c_none, ↓DL.c_some, DL.seqL_lst, DL.seqL_tup, DL.enumL_lst, DL.zipL_lst, DL.zipL_tup, DL.rngD_ok, DL.len_rangeI, DL.stK_mk, DL.put_fro, DL.put_fre, DL.put_bor, DL.fz_fro, DL.fz_fre, DL.fz_bor, DL.set_mk, DL.wipe_nil, DL.wipe_cons, DL.bindT_nm, DL.bindT_tp, DL.frz_mk, DL.frzC_own, DL.frzC_fro, DL.fzs_nil, DL.fzs_cons, DL.add_int, DL.add_lst, DL.add_tup, DL.sub_int, DL.mul_int, DL.mul_lst, DL.mul_tup, DL.fdiv_int, DL.md_int, DL.lt_int, DL.le_int, DL.gt_int, DL.ge_int, DL.eq_any, DL.ne_any, DL.isin_any, DL.notin_any, DL.blOf_bl, DL.intOf_int, DL.len_lst, DL.len_tup, DL.len_scr, DL.ix_lst, DL.ix_tup, DL.ix_scr, DL.ix_dic, DL.eq_int, DL.eq_lints, DL.eq_lints_nil, DL.scr_eq_nil, DL.imm_int, DL.imm_bl, DL.imm_non, DL.imm_str, DL.imm_lst, DL.imm_tup, DL.imms_nil, DL.imms_cons, DL.imms_ints, DL.own_fro, DL.own_fre, DL.own_bor, DL.ownB_own, DL.ownB_fro, DL.clOf_fro, DL.clOf_fre, DL.clOf_bor, DL.isNon_non, DL.isNon_int, DL.isNon_tup, DL.isNon_lst, DL.isNon_str, DL.slice_lst, DL.slice_tup, DL.list_lst, DL.list_tup, DL.tuple_lst, DL.tuple_tup, DL.sum_lst, DL.sum_tup, DL.all_lst, DL.max_int, DL.min_int, DL.abs_int, DL.int_bl, DL.int_int, DL.intsOf_map, DL.blsOf_map, DL.truD_lst, DL.setD_len, DL.setD_srt, DL.sorted_lst, DL.sorted_dic, DL.get1_dic, DL.get2_dic, DL.count_lst, DL.recv_get, DL.recv_count, DL.recv_index, DL.keyOf_int, DL.keyOf_str, DL.appK_own, DL.extK_own, DL.setK_dic, DL.setK_lst, DL.isOwnL_own, DL.isOwn_own, DL.isi_ii, DL.isi_ib, DL.isi_tt, DL.isi_ss, DL.isi_ll, DL.isi_bi, DL.isi_bb, DL.isi_lt, DL.isi_tl, DL.at0, DL.at1, DL.at2, DL.last1, DL.last2, DL.last3, DL.at_ints, DL.encO_some, DL.encO_none, CRes.ok.injEq, D.bl.injEq, D.int.injEq, D.lst.injEq, D.tup.injEq, D.str.injEq, DL.ints_inj, Prod.mk.injEq, if_true, if_false, Bool.false_eq_true, Bool.true_eq_false, Bool.and_true, Bool.true_and, Bool.and_self, Bool.and_false, Bool.false_and, List.length_cons, List.length_nil, List.length_map, Nat.reduceAdd, Nat.reduceLeDiff, true_and, and_true, List.zip_cons_cons, List.zip_nil_right, List.foldl_cons, List.foldl_nil, bne_self_eq_false, Bool.bne_false, Bool.bne_true, Bool.not_false, Bool.not_true, Option.map_none, List.cons_append, List.nil_append, Nat.reduceLT, or_self, and_self, or_true, true_or, or_false, false_or, and_false, false_and, Int.cast_ofNat_Int, Int.reduceLT, Int.reduceLE, Int.reduceEq, Int.reduceNeg, Int.reduceAdd, Int.reduceSub, Int.reduceToNat, true_imp_iff, false_imp_iff, not_true_eq_false, not_false_eq_true, Bool.not_eq_true, Bool.not_eq_false, List.getElem?_cons_succ, List.getElem?_cons_zero, List.set_cons_zero, List.set_cons_succ, List.map_cons, List.map_nil, List.drop_zero, List.take_zero, DL.omap, DL.obind, eq_self, decide_true, decide_false, decide_eq_true_eq, decide_eq_false_iff_not, imp_false, Classical.not_not, reduceCtorEq, implies_true, DL.sq_at_at, DL.sq_at_of, DL.sq_at_back, DL.sq_at_rest, DL.sq_of_at, DL.sq_of_of, DL.sq_of_back, DL.sq_of_rest, DL.sq_back_at, DL.sq_back_of, DL.sq_back_back, DL.sq_back_rest, DL.sq_rest_at, DL.sq_rest_of, DL.sq_rest_back, DL.sq_rest_rest, DL.in_br, DL.in_rr, DL.none_in, DL.imm_ru, DL.imm_enc, DL.imm_encO, DL.intsOf_encO, *])
local macro_rules | `(tactic| walk_at "wi") => `(tactic| try simp (disch := first | assumption | omega) only [↓DL.H_ok, ↓DL.H_bind, ↓DL.H_opt, ↓DL.optK_some, ↓DL.optK_ite, ↓DL.condK_true, ↓DL.condK_false, ↓DL.condK_dec, ↓DL.condK_not, ↓DL.varK_fro, ↓DL.varK_own, ↓DL.callR_ok, ↓DL.callR_exc, ↓DL.e_var, ↓DL.e_glob, ↓DL.e_int, ↓DL.e_bl, ↓DL.e_str, ↓DL.e_non, ↓DL.e_bin, ↓DL.e_neg, ↓DL.H_asBl, ↓DL.e_not, ↓DL.e_and, ↓DL.e_or, ↓DL.e_and1, ↓DL.e_or1, ↓DL.H_if, ↓DL.e_and2, ↓DL.e_or2, ↓DL.e_cmp, ↓DL.e_chain, ↓DL.e_isN, ↓DL.e_isB, ↓DL.H_ite, ↓DL.e_tup, ↓DL.e_lst, ↓DL.e_dic0, ↓DL.e_fz0, ↓DL.e_fz, ↓DL.e_es0, ↓DL.e_es, ↓DL.e_ix, ↓DL.e_slice, ↓DL.e_o0, ↓DL.e_o, ↓DL.e_bi, ↓DL.e_isi, ↓DL.e_meth, ↓DL.e_call, ↓DL.e_revs, ↓DL.e_orT, ↓DL.e_setf, ↓DL.HO_out, ↓DL.x_nil, ↓DL.x_cons, ↓DL.HO_nx, ↓DL.HO_if, ↓DL.HO_ite, ↓DL.x_asg, ↓DL.x_expr, ↓DL.x_ret, ↓DL.x_pass, ↓DL.x_brk, ↓DL.x_raise, ↓DL.x_par, ↓DL.x_asgT, ↓DL.x_append', ↓DL.x_extend', ↓DL.x_setix', ↓DL.s_seq, ↓DL.s_rng1, ↓DL.s_rng2, ↓DL.s_enum, ↓DL.s_zip, ↓DL.c_none, ↓DL.c_some, DL.seqL_lst, DL.seqL_tup, DL.enumL_lst, DL.zipL_lst, DL.zipL_tup, DL.rngD_ok, DL.len_rangeI, DL.stK_mk, DL.put_fro, DL.put_fre, DL.put_bor, DL.fz_fro, DL.fz_fre, DL.fz_bor, DL.set_mk, DL.wipe_nil, DL.wipe_cons, DL.bindT_nm, DL.bindT_tp, DL.frz_mk, DL.frzC_own, DL.frzC_fro, DL.fzs_nil, DL.fzs_cons, DL.add_int, DL.add_lst, DL.add_tup, DL.sub_int, DL.mul_int, DL.mul_lst, DL.mul_tup, DL.fdiv_int, DL.md_int, DL.lt_int, DL.le_int, DL.gt_int, DL.ge_int, DL.eq_any, DL.ne_any, DL.isin_any, DL.notin_any, DL.blOf_bl, DL.intOf_int, DL.len_lst, DL.len_tup, DL.len_scr, DL.ix_lst, DL.ix_tup, DL.ix_scr, DL.ix_dic, DL.eq_int, DL.eq_lints, DL.eq_lints_nil, DL.scr_eq_nil, DL.imm_int, DL.imm_bl, DL.imm_non, DL.imm_str, DL.imm_lst, DL.imm_tup, DL.imms_nil, DL.imms_cons, DL.imms_ints, DL.own_fro, DL.own_fre, DL.own_bor, DL.ownB_own, DL.ownB_fro, DL.clOf_fro, DL.clOf_fre, DL.clOf_bor, DL.isNon_non, DL.isNon_int, DL.isNon_tup, DL.isNon_lst, DL.isNon_str, DL.slice_lst, DL.slice_tup, DL.list_lst, DL.list_tup, DL.tuple_lst, DL.tuple_tup, DL.sum_lst, DL.sum_tup, DL.all_lst, DL.max_int, DL.min_int, DL.abs_int, DL.int_bl, DL.int_int, DL.intsOf_map, DL.blsOf_map, DL.truD_lst, DL.setD_len, DL.setD_srt, DL.sorted_lst, DL.sorted_dic, DL.get1_dic, DL.get2_dic, DL.count_lst, DL.recv_get, DL.recv_count, DL.recv_index, DL.keyOf_int, DL.keyOf_str, DL.appK_own, DL.extK_own, DL.setK_dic, DL.setK_lst, DL.isOwnL_own, DL.isOwn_own, DL.isi_ii, DL.isi_ib, DL.isi_tt, DL.isi_ss, DL.isi_ll, DL.isi_bi, DL.isi_bb, DL.isi_lt, DL.isi_tl, DL.at0, DL.at1, DL.at2, DL.last1, DL.last2, DL.last3, DL.at_ints, DL.encO_some, DL.encO_none, CRes.ok.injEq, D.bl.injEq, D.int.injEq, D.lst.injEq, D.tup.injEq, D.str.injEq, DL.ints_inj, Prod.mk.injEq, if_true, if_false, Bool.false_eq_true, Bool.true_eq_false, Bool.and_true, Bool.true_and, Bool.and_self, Bool.and_false, Bool.false_and, List.length_cons, List.length_nil, List.length_map, Nat.reduceAdd, Nat.reduceLeDiff, true_and, and_true, List.zip_cons_cons, List.zip_nil_right, List.foldl_cons, List.foldl_nil, bne_self_eq_false, Bool.bne_false, Bool.bne_true, Bool.not_false, Bool.not_true, Option.map_none, List.cons_append, List.nil_append, Nat.reduceLT, or_self, and_self, or_true, true_or, or_false, false_or, and_false, false_and, Int.cast_ofNat_Int, Int.reduceLT, Int.reduceLE, Int.reduceEq, Int.reduceNeg, Int.reduceAdd, Int.reduceSub, Int.reduceToNat, true_imp_iff, false_imp_iff, not_true_eq_false, not_false_eq_true, Bool.not_eq_true, Bool.not_eq_false, List.getElem?_cons_succ, List.getElem?_cons_zero, List.set_cons_zero, List.set_cons_succ, List.map_cons, List.map_nil, List.drop_zero, List.take_zero, DL.omap, DL.obind, eq_self, decide_true, decide_false, decide_eq_true_eq, decide_eq_false_iff_not, imp_false, Classical.not_not, reduceCtorEq, implies_true, DL.sq_at_at, DL.sq_at_of, DL.sq_at_back, DL.sq_at_rest, DL.sq_of_at, DL.sq_of_of, DL.sq_of_back, DL.sq_of_rest, DL.sq_back_at, DL.sq_back_of, DL.sq_back_back, DL.sq_back_rest, DL.sq_rest_at, DL.sq_rest_of, DL.sq_rest_back, DL.sq_rest_rest, DL.in_br, DL.in_rr, DL.none_in, DL.imm_ru, DL.imm_enc, DL.imm_encO, DL.intsOf_encO])
local macro_rules | `(tactic| walk_at "wj") => `(tactic| try simp (disch := first | assumption | omega) only [↓DL.H_ok, ↓DL.H_bind, ↓DL.H_opt, ↓DL.optK_some, ↓DL.optK_ite, ↓DL.condK_true, ↓DL.condK_false, ↓DL.condK_dec, ↓DL.condK_not, ↓DL.varK_fro, ↓DL.varK_own, ↓DL.callR_ok, ↓DL.callR_exc, ↓DL.e_var, ↓DL.e_glob, ↓DL.e_int, ↓DL.e_bl, ↓DL.e_str, ↓DL.e_non, ↓DL.e_bin, ↓DL.e_neg, ↓DL.H_asBl, ↓DL.e_not, ↓DL.e_and, ↓DL.e_or, ↓DL.e_and1, ↓DL.e_or1, ↓DL.H_if, ↓DL.e_and2, ↓DL.e_or2, ↓DL.e_cmp, ↓DL.e_chain, ↓DL.e_isN, ↓DL.e_isB, ↓DL.H_ite, ↓DL.e_tup, ↓DL.e_lst, ↓DL.e_dic0, ↓DL.e_fz0, ↓DL.e_fz, ↓DL.e_es0, ↓DL.e_es, ↓DL.e_ix, ↓DL.e_slice, ↓DL.e_o0, ↓DL.e_o, ↓DL.e_bi, ↓DL.e_isi, ↓DL.e_meth, ↓DL.e_call, ↓DL.e_revs, ↓DL.e_orT, ↓DL.e_setf, ↓DL.HO_out, ↓DL.x_nil, ↓DL.x_cons, ↓DL.HO_nx, ↓DL.HO_if, ↓DL.HO_ite, ↓DL.x_asg, ↓DL.x_expr, ↓DL.x_ret, ↓DL.x_pass, ↓DL.x_brk, ↓DL.x_raise, ↓DL.x_par, ↓DL.x_asgT, ↓DL.x_append', ↓DL.x_extend', ↓DL.x_setix', ↓DL.s_seq, ↓DL.s_rng1, ↓DL.s_rng2, ↓DL.s_enum, ↓DL.s_zip, ↓DL.c_none, ↓DL.c_some, DL.seqL_lst, DL.seqL_tup, DL.enumL_lst, DL.zipL_lst, DL.zipL_tup, DL.rngD_ok, DL.len_rangeI, DL.stK_mk, DL.put_fro, DL.put_fre, DL.put_bor, DL.fz_fro, DL.fz_fre, DL.fz_bor, DL.set_mk, DL.wipe_nil, DL.wipe_cons, DL.bindT_nm, DL.bindT_tp, DL.frz_mk, DL.frzC_own, DL.frzC_fro, DL.fzs_nil, DL.fzs_cons, DL.add_int, DL.add_lst, DL.add_tup, DL.sub_int, DL.mul_int, DL.mul_lst, DL.mul_tup, DL.fdiv_int, DL.md_int, DL.lt_int, DL.le_int, DL.gt_int, DL.ge_int, DL.eq_any, DL.ne_any, DL.isin_any, DL.notin_any, DL.blOf_bl, DL.intOf_int, DL.len_lst, DL.len_tup, DL.len_scr, DL.ix_lst, DL.ix_tup, DL.ix_scr, DL.ix_dic, DL.eq_int, DL.eq_lints, DL.eq_lints_nil, DL.scr_eq_nil, DL.imm_int, DL.imm_bl, DL.imm_non, DL.imm_str, DL.imm_lst, DL.imm_tup, DL.imms_nil, DL.imms_cons, DL.imms_ints, DL.own_fro, DL.own_fre, DL.own_bor, DL.ownB_own, DL.ownB_fro, DL.clOf_fro, DL.clOf_fre, DL.clOf_bor, DL.isNon_non, DL.isNon_int, DL.isNon_tup, DL.isNon_lst, DL.isNon_str, DL.slice_lst, DL.slice_tup, DL.list_lst, DL.list_tup, DL.tuple_lst, DL.tuple_tup, DL.sum_lst, DL.sum_tup, DL.all_lst, DL.max_int, DL.min_int, DL.abs_int, DL.int_bl, DL.int_int, DL.intsOf_map, DL.blsOf_map, DL.truD_lst, DL.setD_len, DL.setD_srt, DL.sorted_lst, DL.sorted_dic, DL.get1_dic, DL.get2_dic, DL.count_lst, DL.recv_get, DL.recv_count, DL.recv_index, DL.keyOf_int, DL.keyOf_str, DL.appK_own, DL.extK_own, DL.setK_dic, DL.setK_lst, DL.isOwnL_own, DL.isOwn_own, DL.isi_ii, DL.isi_ib, DL.isi_tt, DL.isi_ss, DL.isi_ll, DL.isi_bi, DL.isi_bb, DL.isi_lt, DL.isi_tl, DL.at0, DL.at1, DL.at2, DL.last1, DL.last2, DL.last3, DL.at_ints, DL.encO_some, DL.encO_none, CRes.ok.injEq, D.bl.injEq, D.int.injEq, D.lst.injEq, D.tup.injEq, D.str.injEq, DL.ints_inj, Prod.mk.injEq, if_true, if_false, Bool.false_eq_true, Bool.true_eq_false, Bool.and_true, Bool.true_and, Bool.and_self, Bool.and_false, Bool.false_and, List.length_cons, List.length_nil, List.length_map, Nat.reduceAdd, Nat.reduceLeDiff, true_and, and_true, List.zip_cons_cons, List.zip_nil_right, List.foldl_cons, List.foldl_nil, bne_self_eq_false, Bool.bne_false, Bool.bne_true, Bool.not_false, Bool.not_true, Option.map_none, List.cons_append, List.nil_append, Nat.reduceLT, or_self, and_self, or_true, true_or, or_false, false_or, and_false, false_and, Int.cast_ofNat_Int, Int.reduceLT, Int.reduceLE, Int.reduceEq, Int.reduceNeg, Int.reduceAdd, Int.reduceSub, Int.reduceToNat, true_imp_iff, false_imp_iff, not_true_eq_false, not_false_eq_true, Bool.not_eq_true, Bool.not_eq_false, List.getElem?_cons_succ, List.getElem?_cons_zero, List.set_cons_zero, List.set_cons_succ, List.map_cons, List.map_nil, List.drop_zero, List.take_zero, DL.omap, DL.obind, eq_self, decide_true, decide_false, decide_eq_true_eq, decide_eq_false_iff_not, imp_false, Classical.not_not, reduceCtorEq, implies_true, DL.sq_at_at, DL.sq_at_of, DL.sq_at_back, DL.sq_at_rest, DL.sq_of_at, DL.sq_of_of, DL.sq_of_back, DL.sq_of_rest, DL.sq_back_at, DL.sq_back_of, DL.sq_back_back, DL.sq_back_rest, DL.sq_rest_at, DL.sq_rest_of, DL.sq_rest_back, DL.sq_rest_rest, DL.in_br, DL.in_rr, DL.none_in, DL.imm_ru, DL.imm_enc, DL.imm_encO, DL.intsOf_encO, *])
theorem run_next {r : Ru} {row : List Int} {m : Nat} {w : List WObj} (hd : ∀ t ∈ r.terms, 2 * t.dep + 2 ≤ m) (hm : 1 ≤ m) (hl : r.terms.length ≤ 1000) : run T m kf_p_next_number [r.enc, .lst (row.map .int)] w = .ok (encO (r.next row)) false w := by
  obtain ⟨n, rfl⟩ : ∃ n, m = n + 1 := ⟨m - 1, by omega⟩
  refine run_w T_p_next_number rfl [.fro r.enc, .fro (.lst (row.map .int)), .un, .un] rfl ?_
  unfold fd_p_next_number
  simp only [↓x_cons, ↓x_asg, Ru.enc]
  refine e_lcM r.terms Tm.enc (fun t => encO (t.num row)) ?_
  walk_at "wp"
  refine ⟨by omega, fun t ht => ?_, ?_⟩
  · have := hd t ht
    rw [run_num (by omega)]
    walk_at "wp"
  · rw [show (r.terms.map fun t => encO (t.num row)) = (r.terms.map (Tm.num row)).map encO by rw [List.map_map]; rfl]
    walk_at "wp"
    cases q : allSome (r.terms.map (Tm.num row)) with
    | none =>
      refine ⟨fun _ => ?_, fun z => absurd (allSome_none q) z⟩
      simp [Ru.next, q, encO]
    | some ys =>
      rw [allSome_some q]
      walk_at "wp"
      refine ⟨fun z => by simp at z, fun _ => ?_⟩
      simp [Ru.next, q, encO]
theorem from_len (r : Ru) : ∀ (k : Nat) (row : List Int), (r.from k row).length ≤ row.length + k
  | 0, row => by simp [Ru.from]
  | k + 1, row => by
    simp only [Ru.from]
    split
    · omega
    · rename_i x _
      have := from_len r k (row ++ [x])
      simp at this
      omega
theorem run_row0 {r : Ru} {many : Int} {m : Nat} {w : List WObj} (hd : ∀ t ∈ r.terms, 2 * t.dep + 3 ≤ m) (hm : 2 ≤ m) (hl : r.terms.length ≤ 1000) (h0 : 0 ≤ many) (hmany : many ≤ 100000) : run T m kf_p_row_of [r.enc, .int many] w = .ok (.lst ((r.row many.toNat).map .int)) true w := by
  obtain ⟨n, rfl⟩ : ∃ n, m = n + 1 := ⟨m - 1, by omega⟩
  obtain ⟨many, rfl⟩ : ∃ k : Nat, many = k := ⟨many.toNat, by omega⟩
  rw [Int.toNat_natCast]
  refine run_w T_p_row_of rfl [.fro r.enc, .fro (.int many), .un, .un] rfl ?_
  unfold fd_p_row_of
  simp only [Ru.enc]
  walk_at "wp"
  simp only [cut_take, ← List.map_take]
  refine x_whileT (many - (r.first.take many).length) (fun s0 k s => ∃ c row, s = (s0.set 2 (.own (.lst (row.map .int)))).set 3 c ∧ k = many - row.length ∧ r.row many = r.from k row) (by omega) ⟨.un, r.first.take many, rfl, rfl, ?_⟩ ?_
  · unfold Ru.row
    rw [List.length_take]
    by_cases h : r.first.length ≤ many
    · rw [Nat.min_eq_right h]
    · rw [Nat.min_eq_left (by omega)]
      rw [show many - r.first.length = many - many by omega]
  · rintro k s ⟨c, row, rfl, hk, hr⟩
    walk_at "wp"
    have hn := run_next (r := r) (row := row) (m := n) (w := w) (fun t ht => by have := hd t ht; omega) (by omega) hl
    simp only [Ru.enc] at hn
    refine ⟨fun h => ?_, fun h => ?_⟩
    · simp only [hn]
      obtain ⟨k', rfl⟩ : ∃ k', k = k' + 1 := ⟨k - 1, by omega⟩
      cases q : r.next row with
      | none =>
        walk_at "wp"
        simp only [Ru.from, q] at hr
        rw [hr]
      | some x =>
        walk_at "wp"
        simp only [Ru.from, q] at hr
        refine ⟨by omega, k', by omega, .fro (.int x), row ++ [x], by simp, by simp; omega, hr⟩
    · have e : k = 0 := by omega
      subst e
      simp only [Ru.from] at hr
      rw [hr]
/-! what is a rule -/
theorem run_is_whole {n : Nat} {i lo hi : Int} {w : List WObj} (hq : 1 ≤ n) : run T n kf_p_is_whole [.int i, .int lo, .int hi] w = .ok (.bl (decide (lo ≤ i ∧ i ≤ hi))) false w := by
  obtain ⟨n, rfl⟩ : ∃ m, n = m + 1 := ⟨n - 1, by omega⟩
  refine run_w T_p_is_whole rfl [.fro (.int i), .fro (.int lo), .fro (.int hi)] rfl ?_
  unfold fd_p_is_whole
  walk_at "wp"
  refine ⟨fun h => ?_, fun h => ?_⟩ <;> simp [h]
def Tm.okB : Nat → Tm → Bool
  | 0, _ => false
  | _ + 1, .at n => decide (1 ≤ n ∧ n ≤ 5)
  | d + 1, .of t => t.okB d
  | d + 1, .back n t => decide (0 ≤ n ∧ n ≤ 5) && t.okB d
  | d + 1, .rest n t => decide (0 ≤ n ∧ n ≤ 5) && t.okB d
theorem run_is_term_in {w : List WObj} : ∀ (t : Tm) (d n : Nat), run T (n + d + 2) kf_p_is_term_in [t.enc, .int d] w = .ok (.bl (t.okB d)) false w := by
  intro t d n
  cases d with
  | zero =>
    refine run_w (n := n + 1) T_p_is_term_in rfl [.fro t.enc, .fro (.int 0)] rfl ?_
    unfold fd_p_is_term_in
    walk_at "wp"
    simp [Tm.okB]
  | succ d =>
    have h0 : (((d + 1 : Nat) : Int) = 0) = False := by simp; omega
    have h1 : ((d + 1 : Nat) : Int) - 1 = (d : Int) := by omega
    cases t with
    | «at» m =>
      refine run_w (n := n + d + 2) T_p_is_term_in rfl [.fro (Tm.enc (.at m)), .fro (.int (d + 1 : Nat))] rfl ?_
      unfold fd_p_is_term_in
      simp only [Tm.enc]
      walk_at "wp"
      simp only [h0]
      rw [run_is_whole (by omega)]
      walk_at "wp"
      simp [Tm.okB]
    | of u =>
      have ih := run_is_term_in (w := w) u d n
      refine run_w (n := n + d + 2) T_p_is_term_in rfl [.fro (Tm.enc (.of u)), .fro (.int (d + 1 : Nat))] rfl ?_
      unfold fd_p_is_term_in
      simp only [Tm.enc]
      walk_at "wp"
      simp only [h0, h1, ih]
      walk_at "wp"
      simp [Tm.okB]
    | back m u =>
      have ih := run_is_term_in (w := w) u d n
      refine run_w (n := n + d + 2) T_p_is_term_in rfl [.fro (Tm.enc (.back m u)), .fro (.int (d + 1 : Nat))] rfl ?_
      unfold fd_p_is_term_in
      simp only [Tm.enc]
      walk_at "wp"
      simp only [h0, h1]
      rw [run_is_whole (by omega)]
      walk_at "wp"
      refine ⟨fun h => ?_, fun h => ?_⟩
      · simp only [h1, ih]
        walk_at "wp"
        simp [Tm.okB, h]
      · simp [Tm.okB, h]
    | rest m u =>
      have ih := run_is_term_in (w := w) u d n
      refine run_w (n := n + d + 2) T_p_is_term_in rfl [.fro (Tm.enc (.rest m u)), .fro (.int (d + 1 : Nat))] rfl ?_
      unfold fd_p_is_term_in
      simp only [Tm.enc]
      walk_at "wp"
      simp only [h0, h1]
      rw [run_is_whole (by omega)]
      walk_at "wp"
      refine ⟨fun h => ?_, fun h => ?_⟩
      · simp only [h1, ih]
        walk_at "wp"
        simp [Tm.okB, h]
      · simp [Tm.okB, h]
theorem run_is_term {t : Tm} {n : Nat} {w : List WObj} (hq : 6 ≤ n) : run T n kf_p_is_term [t.enc] w = .ok (.bl (t.okB 3)) false w := by
  obtain ⟨n, rfl⟩ : ∃ m, n = m + 6 := ⟨n - 6, by omega⟩
  have h := run_is_term_in (w := w) t 3 n
  refine run_w T_p_is_term rfl [.fro t.enc] rfl ?_
  unfold fd_p_is_term
  walk_at "wp"
  simp only [show (3 : Int) = ((3 : Nat) : Int) from rfl, h]
  walk_at "wp"
def Ru.okB (r : Ru) : Bool := decide (1 ≤ r.first.length ∧ r.first.length ≤ 6) && r.first.all (fun i => decide (0 ≤ i ∧ i ≤ 9)) && decide (0 ≤ r.more ∧ r.more ≤ 9) && decide (1 ≤ r.terms.length ∧ r.terms.length ≤ 3) && r.terms.all (fun t => t.okB 3)
theorem all_map {α : Type} {f : α → Bool} {xs : List α} : (xs.map f).all id = xs.all f := by
  induction xs with
  | nil => rfl
  | cons a r ih => simp
theorem run_is_ruleB {r : Ru} {n : Nat} {w : List WObj} (hl1 : r.first.length ≤ 10000) (hl2 : r.terms.length ≤ 10000) (hq : 7 ≤ n) : run T n kf_p_is_rule [r.enc] w = .ok (.bl r.okB) false w := by
  obtain ⟨n, rfl⟩ : ∃ m, n = m + 7 := ⟨n - 7, by omega⟩
  refine run_w T_p_is_rule rfl [.fro r.enc, .un, .un] rfl ?_
  unfold fd_p_is_rule
  simp only [Ru.enc]
  walk_at "wp"
  have no : ∀ p : Prop, ¬ p → (p → CRes.ok (.bl r.okB) false w = CRes.ok (.bl false) false w) := fun p h z => absurd z h
  have bad1 : ¬ (1 ≤ r.first.length ∧ r.first.length ≤ 6) → r.okB = false := fun h => by simp [Ru.okB, h]
  have bad3 : ¬ (0 ≤ r.more ∧ r.more ≤ 9) → r.okB = false := fun h => by simp [Ru.okB, h]
  have bad4 : ¬ (1 ≤ r.terms.length ∧ r.terms.length ≤ 3) → r.okB = false := fun h => by simp [Ru.okB, h]
  refine ⟨fun h1 => ⟨fun h2 => ?_, fun h2 => bad1 (by omega)⟩, fun h1 => bad1 (by omega)⟩
  refine e_lcM r.first .int (fun i => .bl (decide (0 ≤ i ∧ i ≤ 9))) ?_
  walk_at "wp"
  refine ⟨by omega, fun i hi => ?_, ?_⟩
  · rw [run_is_whole (by omega)]
    walk_at "wp"
  · rw [show (r.first.map fun i => D.bl (decide (0 ≤ i ∧ i ≤ 9))) = (r.first.map fun i => decide (0 ≤ i ∧ i ≤ 9)).map .bl by rw [List.map_map]; rfl]
    walk_at "wp"
    rw [all_map]
    cases h3 : r.first.all (fun i => decide (0 ≤ i ∧ i ≤ 9)) with
    | false =>
      walk_at "wp"
      simp only [Ru.okB, h3, Bool.and_false, Bool.false_and]
    | true =>
      walk_at "wp"
      rw [run_is_whole (by omega)]
      walk_at "wp"
      refine ⟨fun h4 => ⟨fun h5 => ⟨fun h6 => ?_, fun h6 => bad4 (by omega)⟩, fun h5 => bad4 (by omega)⟩, fun h4 => bad3 h4⟩
      refine e_lcM r.terms Tm.enc (fun t => .bl (t.okB 3)) ?_
      walk_at "wp"
      refine ⟨by omega, fun t ht => ?_, ?_⟩
      · rw [run_is_term (by omega)]
        walk_at "wp"
      · rw [show (r.terms.map fun t => D.bl (t.okB 3)) = (r.terms.map fun t => t.okB 3).map .bl by rw [List.map_map]; rfl]
        walk_at "wp"
        rw [all_map]
        have e1 : (1 ≤ r.first.length ∧ r.first.length ≤ 6) := by omega
        have e4 : (1 ≤ r.terms.length ∧ r.terms.length ≤ 3) := by omega
        simp only [Ru.okB, h3, e1, h4, e4, and_self, decide_true, Bool.true_and]
theorem okB_dep : ∀ (d : Nat) (t : Tm), t.okB d = true → t.dep ≤ d
  | 0, t, h => by simp [Tm.okB] at h
  | d + 1, .at m, h => by simp [Tm.dep]
  | d + 1, .of t, h => by
    have := okB_dep d t (by simpa [Tm.okB] using h)
    simp [Tm.dep]; omega
  | d + 1, .back m t, h => by
    simp only [Tm.okB, Bool.and_eq_true] at h
    have := okB_dep d t h.2
    simp [Tm.dep]; omega
  | d + 1, .rest m t, h => by
    simp only [Tm.okB, Bool.and_eq_true] at h
    have := okB_dep d t h.2
    simp [Tm.dep]; omega
structure Ru.Ok (r : Ru) : Prop where
  ok : r.okB = true
theorem Ru.Ok.all {r : Ru} (h : r.Ok) : (1 ≤ r.first.length ∧ r.first.length ≤ 6) ∧ (∀ i ∈ r.first, 0 ≤ i ∧ i ≤ 9) ∧ (0 ≤ r.more ∧ r.more ≤ 9) ∧ (1 ≤ r.terms.length ∧ r.terms.length ≤ 3) ∧ ∀ t ∈ r.terms, t.okB 3 = true := by
  have h := h.ok
  simp only [Ru.okB, Bool.and_eq_true, decide_eq_true_eq, List.all_eq_true] at h
  obtain ⟨⟨⟨⟨f1, f2⟩, f3⟩, f4⟩, f5⟩ := h
  exact ⟨f1, f2, f3, f4, f5⟩
theorem Ru.Ok.dep {r : Ru} (h : r.Ok) : ∀ t ∈ r.terms, t.dep ≤ 3 := fun t ht => okB_dep 3 t (h.all.2.2.2.2 t ht)
theorem run_is_rule {r : Ru} {n : Nat} {w : List WObj} (h : r.Ok) (hq : 7 ≤ n) : run T n kf_p_is_rule [r.enc] w = .ok (.bl true) false w := by
  obtain ⟨a, _, _, b, _⟩ := h.all
  rw [run_is_ruleB (by omega) (by omega) hq, h.ok]
theorem run_look_rule {r : Ru} {n : Nat} {w : List WObj} (h : r.Ok) (hq : 8 ≤ n) : run T n kf_p_look_rule [r.enc] w = .ok .non false w := by
  obtain ⟨n, rfl⟩ : ∃ m, n = m + 1 := ⟨n - 1, by omega⟩
  refine run_w T_p_look_rule rfl [.fro r.enc] rfl ?_
  unfold fd_p_look_rule
  walk_at "wp"
  rw [run_is_rule h (by omega)]
  walk_at "wp"
theorem run_look_many {i : Int} {n : Nat} {w : List WObj} (h1 : 1 ≤ i) (h2 : i ≤ 200) (hq : 2 ≤ n) : run T n kf_p_look_many [.int i] w = .ok .non false w := by
  obtain ⟨n, rfl⟩ : ∃ m, n = m + 1 := ⟨n - 1, by omega⟩
  refine run_w T_p_look_many rfl [.fro (.int i)] rfl ?_
  unfold fd_p_look_many
  walk_at "wp"
  rw [run_is_whole (by omega)]
  walk_at "wp"
  exact ⟨h1, h2⟩
theorem run_row {r : Ru} {many : Int} {n : Nat} {w : List WObj} (h : r.Ok) (h0 : 0 ≤ many) (hm : many ≤ 100000) (hq : 9 ≤ n) : run T n kf_p_row_of [r.enc, .int many] w = .ok (.lst ((r.row many.toNat).map .int)) true w := by
  obtain ⟨_, _, _, b, _⟩ := h.all
  exact run_row0 (fun t ht => by have := h.dep t ht; omega) (by omega) (by omega) h0 hm
theorem run_next' {r : Ru} {row : List Int} {n : Nat} {w : List WObj} (h : r.Ok) (hq : 8 ≤ n) : run T n kf_p_next_number [r.enc, .lst (row.map .int)] w = .ok (encO (r.next row)) false w := by
  obtain ⟨_, _, _, b, _⟩ := h.all
  exact run_next (fun t ht => by have := h.dep t ht; omega) (by omega) (by omega)
local macro_rules | `(tactic| walk_at "wp") => `(tactic| try simp (disch := first | assumption | omega) only [↓DL.H_ok, ↓DL.H_bind, ↓DL.H_opt, ↓DL.optK_some, ↓DL.optK_ite, ↓DL.condK_true, ↓DL.condK_false, ↓DL.condK_dec, ↓DL.condK_not, ↓DL.varK_fro, ↓DL.varK_own, ↓DL.callR_ok, ↓DL.callR_exc, ↓DL.e_var, ↓DL.e_glob, ↓DL.e_int, ↓DL.e_bl, ↓DL.e_str, ↓DL.e_non, ↓DL.e_bin, ↓DL.e_neg, ↓DL.H_asBl, ↓DL.e_not, ↓DL.e_and, ↓DL.e_or, ↓DL.e_and1, ↓DL.e_or1, ↓DL.H_if, ↓DL.e_and2, ↓DL.e_or2, ↓DL.e_cmp, ↓DL.e_chain, ↓DL.e_isN, ↓DL.e_isB, ↓DL.e_ife, ↓DL.H_ite, ↓DL.e_tup, ↓DL.e_lst, ↓DL.e_dic0, ↓DL.e_fz0, ↓DL.e_fz, ↓DL.e_es0, ↓DL.e_es, ↓DL.e_ix, ↓DL.e_slice, ↓DL.e_o0, ↓DL.e_o, ↓DL.e_bi, ↓DL.e_isi, ↓DL.e_meth, ↓DL.e_call, ↓DL.e_revs, ↓DL.e_orT, ↓DL.e_setf, ↓DL.HO_out, ↓DL.x_nil, ↓DL.x_cons, ↓DL.HO_nx, ↓DL.HO_if, ↓DL.HO_ite, ↓DL.x_asg, ↓DL.x_expr, ↓DL.x_ret, ↓DL.x_ite, ↓DL.x_pass, ↓DL.x_brk, ↓DL.x_raise, ↓DL.x_par, ↓DL.x_asgT, ↓DL.x_append', ↓DL.x_extend', ↓DL.x_setix', ↓DL.s_seq, ↓DL.s_rng1, ↓DL.s_rng2, ↓DL.s_enum, ↓DL.s_zip, ↓DL.c_none, ↓DL.c_some, DL.seqL_lst, DL.seqL_tup, DL.enumL_lst, DL.zipL_lst, DL.zipL_tup, DL.rngD_ok, DL.len_rangeI, DL.stK_mk, DL.put_fro, DL.put_fre, DL.put_bor, DL.fz_fro, DL.fz_fre, DL.fz_bor, DL.set_mk, DL.wipe_nil, DL.wipe_cons, DL.bindT_nm, DL.bindT_tp, DL.frz_mk, DL.frzC_own, DL.frzC_fro, DL.fzs_nil, DL.fzs_cons, DL.add_int, DL.add_lst, DL.add_tup, DL.sub_int, DL.mul_int, DL.mul_lst, DL.mul_tup, DL.fdiv_int, DL.md_int, DL.lt_int, DL.le_int, DL.gt_int, DL.ge_int, DL.eq_any, DL.ne_any, DL.isin_any, DL.notin_any, DL.blOf_bl, DL.intOf_int, DL.len_lst, DL.len_tup, DL.len_scr, DL.ix_lst, DL.ix_tup, DL.ix_scr, DL.ix_dic, DL.eq_int, DL.eq_lints, DL.eq_lints_nil, DL.scr_eq_nil, DL.imm_int, DL.imm_bl, DL.imm_non, DL.imm_str, DL.imm_lst, DL.imm_tup, DL.imms_nil, DL.imms_cons, DL.imms_ints, DL.own_fro, DL.own_fre, DL.own_bor, DL.ownB_own, DL.ownB_fro, DL.clOf_fro, DL.clOf_fre, DL.clOf_bor, DL.isNon_non, DL.isNon_int, DL.isNon_tup, DL.isNon_lst, DL.isNon_str, DL.slice_lst, DL.slice_tup, DL.list_lst, DL.list_tup, DL.tuple_lst, DL.tuple_tup, DL.sum_lst, DL.sum_tup, DL.all_lst, DL.max_int, DL.min_int, DL.abs_int, DL.int_bl, DL.int_int, DL.intsOf_map, DL.blsOf_map, DL.truD_lst, DL.setD_len, DL.setD_srt, DL.sorted_lst, DL.sorted_dic, DL.get1_dic, DL.get2_dic, DL.count_lst, DL.recv_get, DL.recv_count, DL.recv_index, DL.keyOf_int, DL.keyOf_str, DL.appK_own, DL.extK_own, DL.setK_dic, DL.setK_lst, DL.isOwnL_own, DL.isOwn_own, DL.isi_ii, DL.isi_ib, DL.isi_tt, DL.isi_ss, DL.isi_ll, DL.isi_bi, DL.isi_bb, DL.isi_lt, DL.isi_tl, DL.at0, DL.at1, DL.at2, DL.last1, DL.last2, DL.last3, DL.at_ints, DL.encO_some, DL.encO_none, CRes.ok.injEq, D.bl.injEq, D.int.injEq, D.lst.injEq, D.tup.injEq, D.str.injEq, DL.ints_inj, Prod.mk.injEq, if_true, if_false, Bool.false_eq_true, Bool.true_eq_false, Bool.and_true, Bool.true_and, Bool.and_self, Bool.and_false, Bool.false_and, List.length_cons, List.length_nil, List.length_map, Nat.reduceAdd, Nat.reduceLeDiff, true_and, and_true, List.zip_cons_cons, List.zip_nil_right, List.foldl_cons, List.foldl_nil, bne_self_eq_false, Bool.bne_false, Bool.bne_true, Bool.not_false, Bool.not_true, Option.map_none, List.cons_append, List.nil_append, Nat.reduceLT, or_self, and_self, or_true, true_or, or_false, false_or, and_false, false_and, Int.cast_ofNat_Int, Int.reduceLT, Int.reduceLE, Int.reduceEq, Int.reduceNeg, Int.reduceAdd, Int.reduceSub, Int.reduceToNat, true_imp_iff, false_imp_iff, not_true_eq_false, not_false_eq_true, Bool.not_eq_true, Bool.not_eq_false, List.getElem?_cons_succ, List.getElem?_cons_zero, List.set_cons_zero, List.set_cons_succ, List.map_cons, List.map_nil, List.drop_zero, List.take_zero, DL.omap, DL.obind, eq_self, decide_true, decide_false, decide_eq_true_eq, decide_eq_false_iff_not, imp_false, Classical.not_not, reduceCtorEq, implies_true, DL.sq_at_at, DL.sq_at_of, DL.sq_at_back, DL.sq_at_rest, DL.sq_of_at, DL.sq_of_of, DL.sq_of_back, DL.sq_of_rest, DL.sq_back_at, DL.sq_back_of, DL.sq_back_back, DL.sq_back_rest, DL.sq_rest_at, DL.sq_rest_of, DL.sq_rest_back, DL.sq_rest_rest, DL.in_br, DL.in_rr, DL.none_in, DL.imm_ru, DL.imm_enc, DL.imm_encO, DL.intsOf_encO, DL.run_look_rule, DL.run_look_many, DL.run_row, DL.run_pk])
local macro_rules | `(tactic| walk_at "ws") => `(tactic| try simp (disch := first | assumption | omega) only [↓DL.H_ok, ↓DL.H_bind, ↓DL.H_opt, ↓DL.optK_some, ↓DL.optK_ite, ↓DL.condK_true, ↓DL.condK_false, ↓DL.condK_dec, ↓DL.condK_not, ↓DL.varK_fro, ↓DL.varK_own, ↓DL.callR_ok, ↓DL.callR_exc, ↓DL.e_var, ↓DL.e_glob, ↓DL.e_int, ↓DL.e_bl, ↓DL.e_str, ↓DL.e_non, ↓DL.e_bin, ↓DL.e_neg, ↓DL.H_asBl, ↓DL.e_not, ↓DL.e_and, ↓DL.e_or, ↓DL.e_and1, ↓DL.e_or1, ↓DL.H_if, ↓DL.e_and2, ↓DL.e_or2, ↓DL.e_cmp, ↓DL.e_chain, ↓DL.e_isN, ↓DL.e_isB, ↓DL.e_ife, ↓DL.H_ite, ↓DL.e_tup, ↓DL.e_lst, ↓DL.e_dic0, ↓DL.e_fz0, ↓DL.e_fz, ↓DL.e_es0, ↓DL.e_es, ↓DL.e_ix, ↓DL.e_slice, ↓DL.e_o0, ↓DL.e_o, ↓DL.e_bi, ↓DL.e_isi, ↓DL.e_meth, ↓DL.e_call, ↓DL.e_revs, ↓DL.e_orT, ↓DL.e_setf, ↓DL.HO_out, ↓DL.x_nil, ↓DL.x_cons, ↓DL.HO_nx, ↓DL.HO_if, ↓DL.HO_ite, ↓DL.x_asg, ↓DL.x_expr, ↓DL.x_ret, ↓DL.x_ite, ↓DL.x_pass, ↓DL.x_brk, ↓DL.x_raise, ↓DL.x_par, ↓DL.x_asgT, ↓DL.x_append', ↓DL.x_extend', ↓DL.x_setix', ↓DL.s_seq, ↓DL.s_rng1, ↓DL.s_rng2, ↓DL.s_enum, ↓DL.s_zip, ↓DL.c_none, ↓DL.c_some, DL.seqL_lst, DL.seqL_tup, DL.enumL_lst, DL.zipL_lst, DL.zipL_tup, DL.rngD_ok, DL.len_rangeI, DL.stK_mk, DL.put_fro, DL.put_fre, DL.put_bor, DL.fz_fro, DL.fz_fre, DL.fz_bor, DL.set_mk, DL.wipe_nil, DL.wipe_cons, DL.bindT_nm, DL.bindT_tp, DL.frz_mk, DL.frzC_own, DL.frzC_fro, DL.fzs_nil, DL.fzs_cons, DL.add_int, DL.add_lst, DL.add_tup, DL.sub_int, DL.mul_int, DL.mul_lst, DL.mul_tup, DL.fdiv_int, DL.md_int, DL.lt_int, DL.le_int, DL.gt_int, DL.ge_int, DL.eq_any, DL.ne_any, DL.isin_any, DL.notin_any, DL.blOf_bl, DL.intOf_int, DL.len_lst, DL.len_tup, DL.len_scr, DL.ix_lst, DL.ix_tup, DL.ix_scr, DL.ix_dic, DL.eq_int, DL.eq_lints, DL.eq_lints_nil, DL.scr_eq_nil, DL.imm_int, DL.imm_bl, DL.imm_non, DL.imm_str, DL.imm_lst, DL.imm_tup, DL.imms_nil, DL.imms_cons, DL.imms_ints, DL.own_fro, DL.own_fre, DL.own_bor, DL.ownB_own, DL.ownB_fro, DL.clOf_fro, DL.clOf_fre, DL.clOf_bor, DL.isNon_non, DL.isNon_int, DL.isNon_tup, DL.isNon_lst, DL.isNon_str, DL.slice_lst, DL.slice_tup, DL.list_lst, DL.list_tup, DL.tuple_lst, DL.tuple_tup, DL.sum_lst, DL.sum_tup, DL.all_lst, DL.max_int, DL.min_int, DL.abs_int, DL.int_bl, DL.int_int, DL.intsOf_map, DL.blsOf_map, DL.truD_lst, DL.setD_len, DL.setD_srt, DL.sorted_lst, DL.sorted_dic, DL.get1_dic, DL.get2_dic, DL.count_lst, DL.recv_get, DL.recv_count, DL.recv_index, DL.keyOf_int, DL.keyOf_str, DL.appK_own, DL.extK_own, DL.setK_dic, DL.setK_lst, DL.isOwnL_own, DL.isOwn_own, DL.isi_ii, DL.isi_ib, DL.isi_tt, DL.isi_ss, DL.isi_ll, DL.isi_bi, DL.isi_bb, DL.isi_lt, DL.isi_tl, DL.at0, DL.at1, DL.at2, DL.last1, DL.last2, DL.last3, DL.at_ints, DL.encO_some, DL.encO_none, CRes.ok.injEq, D.bl.injEq, D.int.injEq, D.lst.injEq, D.tup.injEq, D.str.injEq, DL.ints_inj, Prod.mk.injEq, if_true, if_false, Bool.false_eq_true, Bool.true_eq_false, Bool.and_true, Bool.true_and, Bool.and_self, Bool.and_false, Bool.false_and, List.length_cons, List.length_nil, List.length_map, Nat.reduceAdd, Nat.reduceLeDiff, true_and, and_true, List.zip_cons_cons, List.zip_nil_right, List.foldl_cons, List.foldl_nil, bne_self_eq_false, Bool.bne_false, Bool.bne_true, Bool.not_false, Bool.not_true, Option.map_none, List.cons_append, List.nil_append, Nat.reduceLT, or_self, and_self, or_true, true_or, or_false, false_or, and_false, false_and, Int.cast_ofNat_Int, Int.reduceLT, Int.reduceLE, Int.reduceEq, Int.reduceNeg, Int.reduceAdd, Int.reduceSub, Int.reduceToNat, true_imp_iff, false_imp_iff, not_true_eq_false, not_false_eq_true, Bool.not_eq_true, Bool.not_eq_false, List.getElem?_cons_succ, List.getElem?_cons_zero, List.set_cons_zero, List.set_cons_succ, List.map_cons, List.map_nil, List.drop_zero, List.take_zero, DL.omap, DL.obind, eq_self, decide_true, decide_false, decide_eq_true_eq, decide_eq_false_iff_not, imp_false, Classical.not_not, reduceCtorEq, implies_true, DL.sq_at_at, DL.sq_at_of, DL.sq_at_back, DL.sq_at_rest, DL.sq_of_at, DL.sq_of_of, DL.sq_of_back, DL.sq_of_rest, DL.sq_back_at, DL.sq_back_of, DL.sq_back_back, DL.sq_back_rest, DL.sq_rest_at, DL.sq_rest_of, DL.sq_rest_back, DL.sq_rest_rest, DL.in_br, DL.in_rr, DL.none_in, DL.imm_ru, DL.imm_enc, DL.imm_encO, DL.intsOf_encO, DL.run_look_rule, DL.run_look_many, DL.run_row, DL.run_pk, *])
local macro_rules | `(tactic| walk_at "wi") => `(tactic| try simp (disch := first | assumption | omega) only [↓DL.H_ok, ↓DL.H_bind, ↓DL.H_opt, ↓DL.optK_some, ↓DL.optK_ite, ↓DL.condK_true, ↓DL.condK_false, ↓DL.condK_dec, ↓DL.condK_not, ↓DL.varK_fro, ↓DL.varK_own, ↓DL.callR_ok, ↓DL.callR_exc, ↓DL.e_var, ↓DL.e_glob, ↓DL.e_int, ↓DL.e_bl, ↓DL.e_str, ↓DL.e_non, ↓DL.e_bin, ↓DL.e_neg, ↓DL.H_asBl, ↓DL.e_not, ↓DL.e_and, ↓DL.e_or, ↓DL.e_and1, ↓DL.e_or1, ↓DL.H_if, ↓DL.e_and2, ↓DL.e_or2, ↓DL.e_cmp, ↓DL.e_chain, ↓DL.e_isN, ↓DL.e_isB, ↓DL.H_ite, ↓DL.e_tup, ↓DL.e_lst, ↓DL.e_dic0, ↓DL.e_fz0, ↓DL.e_fz, ↓DL.e_es0, ↓DL.e_es, ↓DL.e_ix, ↓DL.e_slice, ↓DL.e_o0, ↓DL.e_o, ↓DL.e_bi, ↓DL.e_isi, ↓DL.e_meth, ↓DL.e_call, ↓DL.e_revs, ↓DL.e_orT, ↓DL.e_setf, ↓DL.HO_out, ↓DL.x_nil, ↓DL.x_cons, ↓DL.HO_nx, ↓DL.HO_if, ↓DL.HO_ite, ↓DL.x_asg, ↓DL.x_expr, ↓DL.x_ret, ↓DL.x_pass, ↓DL.x_brk, ↓DL.x_raise, ↓DL.x_par, ↓DL.x_asgT, ↓DL.x_append', ↓DL.x_extend', ↓DL.x_setix', ↓DL.s_seq, ↓DL.s_rng1, ↓DL.s_rng2, ↓DL.s_enum, ↓DL.s_zip, ↓DL.c_none, ↓DL.c_some, DL.seqL_lst, DL.seqL_tup, DL.enumL_lst, DL.zipL_lst, DL.zipL_tup, DL.rngD_ok, DL.len_rangeI, DL.stK_mk, DL.put_fro, DL.put_fre, DL.put_bor, DL.fz_fro, DL.fz_fre, DL.fz_bor, DL.set_mk, DL.wipe_nil, DL.wipe_cons, DL.bindT_nm, DL.bindT_tp, DL.frz_mk, DL.frzC_own, DL.frzC_fro, DL.fzs_nil, DL.fzs_cons, DL.add_int, DL.add_lst, DL.add_tup, DL.sub_int, DL.mul_int, DL.mul_lst, DL.mul_tup, DL.fdiv_int, DL.md_int, DL.lt_int, DL.le_int, DL.gt_int, DL.ge_int, DL.eq_any, DL.ne_any, DL.isin_any, DL.notin_any, DL.blOf_bl, DL.intOf_int, DL.len_lst, DL.len_tup, DL.len_scr, DL.ix_lst, DL.ix_tup, DL.ix_scr, DL.ix_dic, DL.eq_int, DL.eq_lints, DL.eq_lints_nil, DL.scr_eq_nil, DL.imm_int, DL.imm_bl, DL.imm_non, DL.imm_str, DL.imm_lst, DL.imm_tup, DL.imms_nil, DL.imms_cons, DL.imms_ints, DL.own_fro, DL.own_fre, DL.own_bor, DL.ownB_own, DL.ownB_fro, DL.clOf_fro, DL.clOf_fre, DL.clOf_bor, DL.isNon_non, DL.isNon_int, DL.isNon_tup, DL.isNon_lst, DL.isNon_str, DL.slice_lst, DL.slice_tup, DL.list_lst, DL.list_tup, DL.tuple_lst, DL.tuple_tup, DL.sum_lst, DL.sum_tup, DL.all_lst, DL.max_int, DL.min_int, DL.abs_int, DL.int_bl, DL.int_int, DL.intsOf_map, DL.blsOf_map, DL.truD_lst, DL.setD_len, DL.setD_srt, DL.sorted_lst, DL.sorted_dic, DL.get1_dic, DL.get2_dic, DL.count_lst, DL.recv_get, DL.recv_count, DL.recv_index, DL.keyOf_int, DL.keyOf_str, DL.appK_own, DL.extK_own, DL.setK_dic, DL.setK_lst, DL.isOwnL_own, DL.isOwn_own, DL.isi_ii, DL.isi_ib, DL.isi_tt, DL.isi_ss, DL.isi_ll, DL.isi_bi, DL.isi_bb, DL.isi_lt, DL.isi_tl, DL.at0, DL.at1, DL.at2, DL.last1, DL.last2, DL.last3, DL.at_ints, DL.encO_some, DL.encO_none, CRes.ok.injEq, D.bl.injEq, D.int.injEq, D.lst.injEq, D.tup.injEq, D.str.injEq, DL.ints_inj, Prod.mk.injEq, if_true, if_false, Bool.false_eq_true, Bool.true_eq_false, Bool.and_true, Bool.true_and, Bool.and_self, Bool.and_false, Bool.false_and, List.length_cons, List.length_nil, List.length_map, Nat.reduceAdd, Nat.reduceLeDiff, true_and, and_true, List.zip_cons_cons, List.zip_nil_right, List.foldl_cons, List.foldl_nil, bne_self_eq_false, Bool.bne_false, Bool.bne_true, Bool.not_false, Bool.not_true, Option.map_none, List.cons_append, List.nil_append, Nat.reduceLT, or_self, and_self, or_true, true_or, or_false, false_or, and_false, false_and, Int.cast_ofNat_Int, Int.reduceLT, Int.reduceLE, Int.reduceEq, Int.reduceNeg, Int.reduceAdd, Int.reduceSub, Int.reduceToNat, true_imp_iff, false_imp_iff, not_true_eq_false, not_false_eq_true, Bool.not_eq_true, Bool.not_eq_false, List.getElem?_cons_succ, List.getElem?_cons_zero, List.set_cons_zero, List.set_cons_succ, List.map_cons, List.map_nil, List.drop_zero, List.take_zero, DL.omap, DL.obind, eq_self, decide_true, decide_false, decide_eq_true_eq, decide_eq_false_iff_not, imp_false, Classical.not_not, reduceCtorEq, implies_true, DL.sq_at_at, DL.sq_at_of, DL.sq_at_back, DL.sq_at_rest, DL.sq_of_at, DL.sq_of_of, DL.sq_of_back, DL.sq_of_rest, DL.sq_back_at, DL.sq_back_of, DL.sq_back_back, DL.sq_back_rest, DL.sq_rest_at, DL.sq_rest_of, DL.sq_rest_back, DL.sq_rest_rest, DL.in_br, DL.in_rr, DL.none_in, DL.imm_ru, DL.imm_enc, DL.imm_encO, DL.intsOf_encO, DL.run_look_rule, DL.run_look_many, DL.run_row, DL.run_pk])
local macro_rules | `(tactic| walk_at "wj") => `(tactic| try simp (disch := first | assumption | omega) only [↓DL.H_ok, ↓DL.H_bind, ↓DL.H_opt, ↓DL.optK_some, ↓DL.optK_ite, ↓DL.condK_true, ↓DL.condK_false, ↓DL.condK_dec, ↓DL.condK_not, ↓DL.varK_fro, ↓DL.varK_own, ↓DL.callR_ok, ↓DL.callR_exc, ↓DL.e_var, ↓DL.e_glob, ↓DL.e_int, ↓DL.e_bl, ↓DL.e_str, ↓DL.e_non, ↓DL.e_bin, ↓DL.e_neg, ↓DL.H_asBl, ↓DL.e_not, ↓DL.e_and, ↓DL.e_or, ↓DL.e_and1, ↓DL.e_or1, ↓DL.H_if, ↓DL.e_and2, ↓DL.e_or2, ↓DL.e_cmp, ↓DL.e_chain, ↓DL.e_isN, ↓DL.e_isB, ↓DL.H_ite, ↓DL.e_tup, ↓DL.e_lst, ↓DL.e_dic0, ↓DL.e_fz0, ↓DL.e_fz, ↓DL.e_es0, ↓DL.e_es, ↓DL.e_ix, ↓DL.e_slice, ↓DL.e_o0, ↓DL.e_o, ↓DL.e_bi, ↓DL.e_isi, ↓DL.e_meth, ↓DL.e_call, ↓DL.e_revs, ↓DL.e_orT, ↓DL.e_setf, ↓DL.HO_out, ↓DL.x_nil, ↓DL.x_cons, ↓DL.HO_nx, ↓DL.HO_if, ↓DL.HO_ite, ↓DL.x_asg, ↓DL.x_expr, ↓DL.x_ret, ↓DL.x_pass, ↓DL.x_brk, ↓DL.x_raise, ↓DL.x_par, ↓DL.x_asgT, ↓DL.x_append', ↓DL.x_extend', ↓DL.x_setix', ↓DL.s_seq, ↓DL.s_rng1, ↓DL.s_rng2, ↓DL.s_enum, ↓DL.s_zip, ↓DL.c_none, ↓DL.c_some, DL.seqL_lst, DL.seqL_tup, DL.enumL_lst, DL.zipL_lst, DL.zipL_tup, DL.rngD_ok, DL.len_rangeI, DL.stK_mk, DL.put_fro, DL.put_fre, DL.put_bor, DL.fz_fro, DL.fz_fre, DL.fz_bor, DL.set_mk, DL.wipe_nil, DL.wipe_cons, DL.bindT_nm, DL.bindT_tp, DL.frz_mk, DL.frzC_own, DL.frzC_fro, DL.fzs_nil, DL.fzs_cons, DL.add_int, DL.add_lst, DL.add_tup, DL.sub_int, DL.mul_int, DL.mul_lst, DL.mul_tup, DL.fdiv_int, DL.md_int, DL.lt_int, DL.le_int, DL.gt_int, DL.ge_int, DL.eq_any, DL.ne_any, DL.isin_any, DL.notin_any, DL.blOf_bl, DL.intOf_int, DL.len_lst, DL.len_tup, DL.len_scr, DL.ix_lst, DL.ix_tup, DL.ix_scr, DL.ix_dic, DL.eq_int, DL.eq_lints, DL.eq_lints_nil, DL.scr_eq_nil, DL.imm_int, DL.imm_bl, DL.imm_non, DL.imm_str, DL.imm_lst, DL.imm_tup, DL.imms_nil, DL.imms_cons, DL.imms_ints, DL.own_fro, DL.own_fre, DL.own_bor, DL.ownB_own, DL.ownB_fro, DL.clOf_fro, DL.clOf_fre, DL.clOf_bor, DL.isNon_non, DL.isNon_int, DL.isNon_tup, DL.isNon_lst, DL.isNon_str, DL.slice_lst, DL.slice_tup, DL.list_lst, DL.list_tup, DL.tuple_lst, DL.tuple_tup, DL.sum_lst, DL.sum_tup, DL.all_lst, DL.max_int, DL.min_int, DL.abs_int, DL.int_bl, DL.int_int, DL.intsOf_map, DL.blsOf_map, DL.truD_lst, DL.setD_len, DL.setD_srt, DL.sorted_lst, DL.sorted_dic, DL.get1_dic, DL.get2_dic, DL.count_lst, DL.recv_get, DL.recv_count, DL.recv_index, DL.keyOf_int, DL.keyOf_str, DL.appK_own, DL.extK_own, DL.setK_dic, DL.setK_lst, DL.isOwnL_own, DL.isOwn_own, DL.isi_ii, DL.isi_ib, DL.isi_tt, DL.isi_ss, DL.isi_ll, DL.isi_bi, DL.isi_bb, DL.isi_lt, DL.isi_tl, DL.at0, DL.at1, DL.at2, DL.last1, DL.last2, DL.last3, DL.at_ints, DL.encO_some, DL.encO_none, CRes.ok.injEq, D.bl.injEq, D.int.injEq, D.lst.injEq, D.tup.injEq, D.str.injEq, DL.ints_inj, Prod.mk.injEq, if_true, if_false, Bool.false_eq_true, Bool.true_eq_false, Bool.and_true, Bool.true_and, Bool.and_self, Bool.and_false, Bool.false_and, List.length_cons, List.length_nil, List.length_map, Nat.reduceAdd, Nat.reduceLeDiff, true_and, and_true, List.zip_cons_cons, List.zip_nil_right, List.foldl_cons, List.foldl_nil, bne_self_eq_false, Bool.bne_false, Bool.bne_true, Bool.not_false, Bool.not_true, Option.map_none, List.cons_append, List.nil_append, Nat.reduceLT, or_self, and_self, or_true, true_or, or_false, false_or, and_false, false_and, Int.cast_ofNat_Int, Int.reduceLT, Int.reduceLE, Int.reduceEq, Int.reduceNeg, Int.reduceAdd, Int.reduceSub, Int.reduceToNat, true_imp_iff, false_imp_iff, not_true_eq_false, not_false_eq_true, Bool.not_eq_true, Bool.not_eq_false, List.getElem?_cons_succ, List.getElem?_cons_zero, List.set_cons_zero, List.set_cons_succ, List.map_cons, List.map_nil, List.drop_zero, List.take_zero, DL.omap, DL.obind, eq_self, decide_true, decide_false, decide_eq_true_eq, decide_eq_false_iff_not, imp_false, Classical.not_not, reduceCtorEq, implies_true, DL.sq_at_at, DL.sq_at_of, DL.sq_at_back, DL.sq_at_rest, DL.sq_of_at, DL.sq_of_of, DL.sq_of_back, DL.sq_of_rest, DL.sq_back_at, DL.sq_back_of, DL.sq_back_back, DL.sq_back_rest, DL.sq_rest_at, DL.sq_rest_of, DL.sq_rest_back, DL.sq_rest_rest, DL.in_br, DL.in_rr, DL.none_in, DL.imm_ru, DL.imm_enc, DL.imm_encO, DL.intsOf_encO, DL.run_look_rule, DL.run_look_many, DL.run_row, DL.run_pk, *])
theorem run_numbers {r : Ru} {many : Int} {n : Nat} {w : List WObj} (h : r.Ok) (h1 : 1 ≤ many) (h2 : many ≤ 200) (hq : 10 ≤ n) : run T n kf_p_numbers [r.enc, .int many] w = .ok (.lst ((r.row many.toNat).map .int)) true w := by
  obtain ⟨n, rfl⟩ : ∃ m, n = m + 1 := ⟨n - 1, by omega⟩
  refine run_w T_p_numbers rfl [.fro r.enc, .fro (.int many)] rfl ?_
  unfold fd_p_numbers
  walk_at "wp"
end DL

/-! W5: drawn terms and rules; beginnings of rows. -/
namespace DL
open PySem L2
local macro_rules | `(tactic| walk_at "wp") => `(tactic| try simp (disch := first | assumption | omega) only [↓DL.H_ok, ↓DL.H_bind, ↓DL.H_opt, ↓DL.optK_some, ↓DL.optK_ite, ↓DL.condK_true, ↓DL.condK_false, ↓DL.condK_dec, ↓DL.condK_not, ↓DL.varK_fro, ↓DL.varK_own, ↓DL.callR_ok, ↓DL.callR_exc, ↓DL.e_var, ↓DL.e_glob, ↓DL.e_int, ↓DL.e_bl, ↓DL.e_str, ↓DL.e_non, ↓DL.e_bin, ↓DL.e_neg, ↓DL.H_asBl, ↓DL.e_not, ↓DL.e_and, ↓DL.e_or, ↓DL.e_and1, ↓DL.e_or1, ↓DL.H_if, ↓DL.e_and2, ↓DL.e_or2, ↓DL.e_cmp, ↓DL.e_chain, ↓DL.e_isN, ↓DL.e_isB, ↓DL.e_ife, ↓DL.H_ite, ↓DL.e_tup, ↓DL.e_lst, ↓DL.e_dic0, ↓DL.e_fz0, ↓DL.e_fz, ↓DL.e_es0, ↓DL.e_es, ↓DL.e_ix, ↓DL.e_slice, ↓DL.e_o0, ↓DL.e_o, ↓DL.e_bi, ↓DL.e_isi, ↓DL.e_meth, ↓DL.e_call, ↓DL.e_revs, ↓DL.e_orT, ↓DL.e_setf, ↓DL.HO_out, ↓DL.x_nil, ↓DL.x_cons, ↓DL.HO_nx, ↓DL.HO_if, ↓DL.HO_ite, ↓DL.x_asg, ↓DL.x_expr, ↓DL.x_ret, ↓DL.x_ite, ↓DL.x_pass, ↓DL.x_brk, ↓DL.x_raise, ↓DL.x_par, ↓DL.x_asgT, ↓DL.x_append', ↓DL.x_extend', ↓DL.x_setix', ↓DL.s_seq, ↓DL.s_rng1, ↓DL.s_rng2, ↓DL.s_enum, ↓DL.s_zip, ↓DL.c_none, ↓DL.c_some, DL.seqL_lst, DL.seqL_tup, DL.enumL_lst, DL.zipL_lst, DL.zipL_tup, DL.rngD_ok, DL.len_rangeI, DL.stK_mk, DL.put_fro, DL.put_fre, DL.put_bor, DL.fz_fro, DL.fz_fre, DL.fz_bor, DL.set_mk, DL.wipe_nil, DL.wipe_cons, DL.bindT_nm, DL.bindT_tp, DL.frz_mk, DL.frzC_own, DL.frzC_fro, DL.fzs_nil, DL.fzs_cons, DL.add_int, DL.add_lst, DL.add_tup, DL.sub_int, DL.mul_int, DL.mul_lst, DL.mul_tup, DL.fdiv_int, DL.md_int, DL.lt_int, DL.le_int, DL.gt_int, DL.ge_int, DL.eq_any, DL.ne_any, DL.isin_any, DL.notin_any, DL.blOf_bl, DL.intOf_int, DL.len_lst, DL.len_tup, DL.len_scr, DL.ix_lst, DL.ix_tup, DL.ix_scr, DL.ix_dic, DL.eq_int, DL.eq_lints, DL.eq_lints_nil, DL.scr_eq_nil, DL.imm_int, DL.imm_bl, DL.imm_non, DL.imm_str, DL.imm_lst, DL.imm_tup, DL.imms_nil, DL.imms_cons, DL.imms_ints, DL.own_fro, DL.own_fre, DL.own_bor, DL.ownB_own, DL.ownB_fro, DL.clOf_fro, DL.clOf_fre, DL.clOf_bor, DL.isNon_non, DL.isNon_int, DL.isNon_tup, DL.isNon_lst, DL.isNon_str, DL.slice_lst, DL.slice_tup, DL.list_lst, DL.list_tup, DL.tuple_lst, DL.tuple_tup, DL.sum_lst, DL.sum_tup, DL.all_lst, DL.max_int, DL.min_int, DL.abs_int, DL.int_bl, DL.int_int, DL.intsOf_map, DL.blsOf_map, DL.truD_lst, DL.setD_len, DL.setD_srt, DL.sorted_lst, DL.sorted_dic, DL.get1_dic, DL.get2_dic, DL.count_lst, DL.recv_get, DL.recv_count, DL.recv_index, DL.keyOf_int, DL.keyOf_str, DL.appK_own, DL.extK_own, DL.setK_dic, DL.setK_lst, DL.isOwnL_own, DL.isOwn_own, DL.isi_ii, DL.isi_ib, DL.isi_tt, DL.isi_ss, DL.isi_ll, DL.isi_bi, DL.isi_bb, DL.isi_lt, DL.isi_tl, DL.at0, DL.at1, DL.at2, DL.last1, DL.last2, DL.last3, DL.at_ints, DL.encO_some, DL.encO_none, CRes.ok.injEq, D.bl.injEq, D.int.injEq, D.lst.injEq, D.tup.injEq, D.str.injEq, DL.ints_inj, Prod.mk.injEq, if_true, if_false, Bool.false_eq_true, Bool.true_eq_false, Bool.and_true, Bool.true_and, Bool.and_self, Bool.and_false, Bool.false_and, List.length_cons, List.length_nil, List.length_map, Nat.reduceAdd, Nat.reduceLeDiff, true_and, and_true, List.zip_cons_cons, List.zip_nil_right, List.foldl_cons, List.foldl_nil, bne_self_eq_false, Bool.bne_false, Bool.bne_true, Bool.not_false, Bool.not_true, Option.map_none, List.cons_append, List.nil_append, Nat.reduceLT, or_self, and_self, or_true, true_or, or_false, false_or, and_false, false_and, Int.cast_ofNat_Int, Int.reduceLT, Int.reduceLE, Int.reduceEq, Int.reduceNeg, Int.reduceAdd, Int.reduceSub, Int.reduceToNat, true_imp_iff, false_imp_iff, not_true_eq_false, not_false_eq_true, Bool.not_eq_true, Bool.not_eq_false, List.getElem?_cons_succ, List.getElem?_cons_zero, List.set_cons_zero, List.set_cons_succ, List.map_cons, List.map_nil, List.drop_zero, List.take_zero, DL.omap, DL.obind, eq_self, decide_true, decide_false, decide_eq_true_eq, decide_eq_false_iff_not, imp_false, Classical.not_not, reduceCtorEq, implies_true, DL.sq_at_at, DL.sq_at_of, DL.sq_at_back, DL.sq_at_rest, DL.sq_of_at, DL.sq_of_of, DL.sq_of_back, DL.sq_of_rest, DL.sq_back_at, DL.sq_back_of, DL.sq_back_back, DL.sq_back_rest, DL.sq_rest_at, DL.sq_rest_of, DL.sq_rest_back, DL.sq_rest_rest, DL.imm_ru, DL.imm_enc, DL.imm_encO, DL.run_pk])
local macro_rules | `(tactic| walk_at "ws") => `(tactic| try simp (disch := first | assumption | omega) only [↓DL.H_ok, ↓DL.H_bind, ↓DL.H_opt, ↓DL.optK_some, ↓DL.optK_ite, ↓DL.condK_true, ↓DL.condK_false, ↓DL.condK_dec, ↓DL.condK_not, ↓DL.varK_fro, ↓DL.varK_own, ↓DL.callR_ok, ↓DL.callR_exc, ↓DL.e_var, ↓DL.e_glob, ↓DL.e_int, ↓DL.e_bl, ↓DL.e_str, ↓DL.e_non, ↓DL.e_bin, ↓DL.e_neg, ↓DL.H_asBl, ↓DL.e_not, ↓DL.e_and, ↓DL.e_or, ↓DL.e_and1, ↓DL.e_or1, ↓DL.H_if, ↓DL.e_and2, ↓DL.e_or2, ↓DL.e_cmp, ↓DL.e_chain, ↓DL.e_isN, ↓DL.e_isB, ↓DL.e_ife, ↓DL.H_ite, ↓DL.e_tup, ↓DL.e_lst, ↓DL.e_dic0, ↓DL.e_fz0, ↓DL.e_fz, ↓DL.e_es0, ↓DL.e_es, ↓DL.e_ix, ↓DL.e_slice, ↓DL.e_o0, ↓DL.e_o, ↓DL.e_bi, ↓DL.e_isi, ↓DL.e_meth, ↓DL.e_call, ↓DL.e_revs, ↓DL.e_orT, ↓DL.e_setf, ↓DL.HO_out, ↓DL.x_nil, ↓DL.x_cons, ↓DL.HO_nx, ↓DL.HO_if, ↓DL.HO_ite, ↓DL.x_asg, ↓DL.x_expr, ↓DL.x_ret, ↓DL.x_ite, ↓DL.x_pass, ↓DL.x_brk, ↓DL.x_raise, ↓DL.x_par, ↓DL.x_asgT, ↓DL.x_append', ↓DL.x_extend', ↓DL.x_setix', ↓DL.s_seq, ↓DL.s_rng1, ↓DL.s_rng2, ↓DL.s_enum, ↓DL.s_zip, ↓DL.c_none, ↓DL.c_some, DL.seqL_lst, DL.seqL_tup, DL.enumL_lst, DL.zipL_lst, DL.zipL_tup, DL.rngD_ok, DL.len_rangeI, DL.stK_mk, DL.put_fro, DL.put_fre, DL.put_bor, DL.fz_fro, DL.fz_fre, DL.fz_bor, DL.set_mk, DL.wipe_nil, DL.wipe_cons, DL.bindT_nm, DL.bindT_tp, DL.frz_mk, DL.frzC_own, DL.frzC_fro, DL.fzs_nil, DL.fzs_cons, DL.add_int, DL.add_lst, DL.add_tup, DL.sub_int, DL.mul_int, DL.mul_lst, DL.mul_tup, DL.fdiv_int, DL.md_int, DL.lt_int, DL.le_int, DL.gt_int, DL.ge_int, DL.eq_any, DL.ne_any, DL.isin_any, DL.notin_any, DL.blOf_bl, DL.intOf_int, DL.len_lst, DL.len_tup, DL.len_scr, DL.ix_lst, DL.ix_tup, DL.ix_scr, DL.ix_dic, DL.eq_int, DL.eq_lints, DL.eq_lints_nil, DL.scr_eq_nil, DL.imm_int, DL.imm_bl, DL.imm_non, DL.imm_str, DL.imm_lst, DL.imm_tup, DL.imms_nil, DL.imms_cons, DL.imms_ints, DL.own_fro, DL.own_fre, DL.own_bor, DL.ownB_own, DL.ownB_fro, DL.clOf_fro, DL.clOf_fre, DL.clOf_bor, DL.isNon_non, DL.isNon_int, DL.isNon_tup, DL.isNon_lst, DL.isNon_str, DL.slice_lst, DL.slice_tup, DL.list_lst, DL.list_tup, DL.tuple_lst, DL.tuple_tup, DL.sum_lst, DL.sum_tup, DL.all_lst, DL.max_int, DL.min_int, DL.abs_int, DL.int_bl, DL.int_int, DL.intsOf_map, DL.blsOf_map, DL.truD_lst, DL.setD_len, DL.setD_srt, DL.sorted_lst, DL.sorted_dic, DL.get1_dic, DL.get2_dic, DL.count_lst, DL.recv_get, DL.recv_count, DL.recv_index, DL.keyOf_int, DL.keyOf_str, DL.appK_own, DL.extK_own, DL.setK_dic, DL.setK_lst, DL.isOwnL_own, DL.isOwn_own, DL.isi_ii, DL.isi_ib, DL.isi_tt, DL.isi_ss, DL.isi_ll, DL.isi_bi, DL.isi_bb, DL.isi_lt, DL.isi_tl, DL.at0, DL.at1, DL.at2, DL.last1, DL.last2, DL.last3, DL.at_ints, DL.encO_some, DL.encO_none, CRes.ok.injEq, D.bl.injEq, D.int.injEq, D.lst.injEq, D.tup.injEq, D.str.injEq, DL.ints_inj, Prod.mk.injEq, if_true, if_false, Bool.false_eq_true, Bool.true_eq_false, Bool.and_true, Bool.true_and, Bool.and_self, Bool.and_false, Bool.false_and, List.length_cons, List.length_nil, List.length_map, Nat.reduceAdd, Nat.reduceLeDiff, true_and, and_true, List.zip_cons_cons, List.zip_nil_right, List.foldl_cons, List.foldl_nil, bne_self_eq_false, Bool.bne_false, Bool.bne_true, Bool.not_false, Bool.not_true, Option.map_none, List.cons_append, List.nil_append, Nat.reduceLT, or_self, and_self, or_true, true_or, or_false, false_or, and_false, false_and, Int.cast_ofNat_Int, Int.reduceLT, Int.reduceLE, Int.reduceEq, Int.reduceNeg, Int.reduceAdd, Int.reduceSub, Int.reduceToNat, true_imp_iff, false_imp_iff, not_true_eq_false, not_false_eq_true, Bool.not_eq_true, Bool.not_eq_false, List.getElem?_cons_succ, List.getElem?_cons_zero, List.set_cons_zero, List.set_cons_succ, List.map_cons, List.map_nil, List.drop_zero, List.take_zero, DL.omap, DL.obind, eq_self, decide_true, decide_false, decide_eq_true_eq, decide_eq_false_iff_not, imp_false, Classical.not_not, reduceCtorEq, implies_true, DL.sq_at_at, DL.sq_at_of, DL.sq_at_back, DL.sq_at_rest, DL.sq_of_at, DL.sq_of_of, DL.sq_of_back, DL.sq_of_rest, DL.sq_back_at, DL.sq_back_of, DL.sq_back_back, DL.sq_back_rest, DL.sq_rest_at, DL.sq_rest_of, DL.sq_rest_back, DL.sq_rest_rest, DL.imm_ru, DL.imm_enc, DL.imm_encO, DL.run_pk, *])
local macro_rules | `(tactic| walk_at "wi") => `(tactic| try simp (disch := first | assumption | omega) only [↓DL.H_ok, ↓DL.H_bind, ↓DL.H_opt, ↓DL.optK_some, ↓DL.optK_ite, ↓DL.condK_true, ↓DL.condK_false, ↓DL.condK_dec, ↓DL.condK_not, ↓DL.varK_fro, ↓DL.varK_own, ↓DL.callR_ok, ↓DL.callR_exc, ↓DL.e_var, ↓DL.e_glob, ↓DL.e_int, ↓DL.e_bl, ↓DL.e_str, ↓DL.e_non, ↓DL.e_bin, ↓DL.e_neg, ↓DL.H_asBl, ↓DL.e_not, ↓DL.e_and, ↓DL.e_or, ↓DL.e_and1, ↓DL.e_or1, ↓DL.H_if, ↓DL.e_and2, ↓DL.e_or2, ↓DL.e_cmp, ↓DL.e_chain, ↓DL.e_isN, ↓DL.e_isB, ↓DL.H_ite, ↓DL.e_tup, ↓DL.e_lst, ↓DL.e_dic0, ↓DL.e_fz0, ↓DL.e_fz, ↓DL.e_es0, ↓DL.e_es, ↓DL.e_ix, ↓DL.e_slice, ↓DL.e_o0, ↓DL.e_o, ↓DL.e_bi, ↓DL.e_isi, ↓DL.e_meth, ↓DL.e_call, ↓DL.e_revs, ↓DL.e_orT, ↓DL.e_setf, ↓DL.HO_out, ↓DL.x_nil, ↓DL.x_cons, ↓DL.HO_nx, ↓DL.HO_if, ↓DL.HO_ite, ↓DL.x_asg, ↓DL.x_expr, ↓DL.x_ret, ↓DL.x_pass, ↓DL.x_brk, ↓DL.x_raise, ↓DL.x_par, ↓DL.x_asgT, ↓DL.x_append', ↓DL.x_extend', ↓DL.x_setix', ↓DL.s_seq, ↓DL.s_rng1, ↓DL.s_rng2, ↓DL.s_enum, ↓DL.s_zip, ↓DL.c_none, ↓DL.c_some, DL.seqL_lst, DL.seqL_tup, DL.enumL_lst, DL.zipL_lst, DL.zipL_tup, DL.rngD_ok, DL.len_rangeI, DL.stK_mk, DL.put_fro, DL.put_fre, DL.put_bor, DL.fz_fro, DL.fz_fre, DL.fz_bor, DL.set_mk, DL.wipe_nil, DL.wipe_cons, DL.bindT_nm, DL.bindT_tp, DL.frz_mk, DL.frzC_own, DL.frzC_fro, DL.fzs_nil, DL.fzs_cons, DL.add_int, DL.add_lst, DL.add_tup, DL.sub_int, DL.mul_int, DL.mul_lst, DL.mul_tup, DL.fdiv_int, DL.md_int, DL.lt_int, DL.le_int, DL.gt_int, DL.ge_int, DL.eq_any, DL.ne_any, DL.isin_any, DL.notin_any, DL.blOf_bl, DL.intOf_int, DL.len_lst, DL.len_tup, DL.len_scr, DL.ix_lst, DL.ix_tup, DL.ix_scr, DL.ix_dic, DL.eq_int, DL.eq_lints, DL.eq_lints_nil, DL.scr_eq_nil, DL.imm_int, DL.imm_bl, DL.imm_non, DL.imm_str, DL.imm_lst, DL.imm_tup, DL.imms_nil, DL.imms_cons, DL.imms_ints, DL.own_fro, DL.own_fre, DL.own_bor, DL.ownB_own, DL.ownB_fro, DL.clOf_fro, DL.clOf_fre, DL.clOf_bor, DL.isNon_non, DL.isNon_int, DL.isNon_tup, DL.isNon_lst, DL.isNon_str, DL.slice_lst, DL.slice_tup, DL.list_lst, DL.list_tup, DL.tuple_lst, DL.tuple_tup, DL.sum_lst, DL.sum_tup, DL.all_lst, DL.max_int, DL.min_int, DL.abs_int, DL.int_bl, DL.int_int, DL.intsOf_map, DL.blsOf_map, DL.truD_lst, DL.setD_len, DL.setD_srt, DL.sorted_lst, DL.sorted_dic, DL.get1_dic, DL.get2_dic, DL.count_lst, DL.recv_get, DL.recv_count, DL.recv_index, DL.keyOf_int, DL.keyOf_str, DL.appK_own, DL.extK_own, DL.setK_dic, DL.setK_lst, DL.isOwnL_own, DL.isOwn_own, DL.isi_ii, DL.isi_ib, DL.isi_tt, DL.isi_ss, DL.isi_ll, DL.isi_bi, DL.isi_bb, DL.isi_lt, DL.isi_tl, DL.at0, DL.at1, DL.at2, DL.last1, DL.last2, DL.last3, DL.at_ints, DL.encO_some, DL.encO_none, CRes.ok.injEq, D.bl.injEq, D.int.injEq, D.lst.injEq, D.tup.injEq, D.str.injEq, DL.ints_inj, Prod.mk.injEq, if_true, if_false, Bool.false_eq_true, Bool.true_eq_false, Bool.and_true, Bool.true_and, Bool.and_self, Bool.and_false, Bool.false_and, List.length_cons, List.length_nil, List.length_map, Nat.reduceAdd, Nat.reduceLeDiff, true_and, and_true, List.zip_cons_cons, List.zip_nil_right, List.foldl_cons, List.foldl_nil, bne_self_eq_false, Bool.bne_false, Bool.bne_true, Bool.not_false, Bool.not_true, Option.map_none, List.cons_append, List.nil_append, Nat.reduceLT, or_self, and_self, or_true, true_or, or_false, false_or, and_false, false_and, Int.cast_ofNat_Int, Int.reduceLT, Int.reduceLE, Int.reduceEq, Int.reduceNeg, Int.reduceAdd, Int.reduceSub, Int.reduceToNat, true_imp_iff, false_imp_iff, not_true_eq_false, not_false_eq_true, Bool.not_eq_true, Bool.not_eq_false, List.getElem?_cons_succ, List.getElem?_cons_zero, List.set_cons_zero, List.set_cons_succ, List.map_cons, List.map_nil, List.drop_zero, List.take_zero, DL.omap, DL.obind, eq_self, decide_true, decide_false, decide_eq_true_eq, decide_eq_false_iff_not, imp_false, Classical.not_not, reduceCtorEq, implies_true, DL.sq_at_at, DL.sq_at_of, DL.sq_at_back, DL.sq_at_rest, DL.sq_of_at, DL.sq_of_of, DL.sq_of_back, DL.sq_of_rest, DL.sq_back_at, DL.sq_back_of, DL.sq_back_back, DL.sq_back_rest, DL.sq_rest_at, DL.sq_rest_of, DL.sq_rest_back, DL.sq_rest_rest, DL.imm_ru, DL.imm_enc, DL.imm_encO, DL.run_pk])
local macro_rules | `(tactic| walk_at "wj") => `(tactic| try simp (disch := first | assumption | omega) only [↓DL.H_ok, ↓DL.H_bind, ↓DL.H_opt, ↓DL.optK_some, ↓DL.optK_ite, ↓DL.condK_true, ↓DL.condK_false, ↓DL.condK_dec, ↓DL.condK_not, ↓DL.varK_fro, ↓DL.varK_own, ↓DL.callR_ok, ↓DL.callR_exc, ↓DL.e_var, ↓DL.e_glob, ↓DL.e_int, ↓DL.e_bl, ↓DL.e_str, ↓DL.e_non, ↓DL.e_bin, ↓DL.e_neg, ↓DL.H_asBl, ↓DL.e_not, ↓DL.e_and, ↓DL.e_or, ↓DL.e_and1, ↓DL.e_or1, ↓DL.H_if, ↓DL.e_and2, ↓DL.e_or2, ↓DL.e_cmp, ↓DL.e_chain, ↓DL.e_isN, ↓DL.e_isB, ↓DL.H_ite, ↓DL.e_tup, ↓DL.e_lst, ↓DL.e_dic0, ↓DL.e_fz0, ↓DL.e_fz, ↓DL.e_es0, ↓DL.e_es, ↓DL.e_ix, ↓DL.e_slice, ↓DL.e_o0, ↓DL.e_o, ↓DL.e_bi, ↓DL.e_isi, ↓DL.e_meth, ↓DL.e_call, ↓DL.e_revs, ↓DL.e_orT, ↓DL.e_setf, ↓DL.HO_out, ↓DL.x_nil, ↓DL.x_cons, ↓DL.HO_nx, ↓DL.HO_if, ↓DL.HO_ite, ↓DL.x_asg, ↓DL.x_expr, ↓DL.x_ret, ↓DL.x_pass, ↓DL.x_brk, ↓DL.x_raise, ↓DL.x_par, ↓DL.x_asgT, ↓DL.x_append', ↓DL.x_extend', ↓DL.x_setix', ↓DL.s_seq, ↓DL.s_rng1, ↓DL.s_rng2, ↓DL.s_enum, ↓DL.s_zip, ↓DL.c_none, ↓DL.c_some, DL.seqL_lst, DL.seqL_tup, DL.enumL_lst, DL.zipL_lst, DL.zipL_tup, DL.rngD_ok, DL.len_rangeI, DL.stK_mk, DL.put_fro, DL.put_fre, DL.put_bor, DL.fz_fro, DL.fz_fre, DL.fz_bor, DL.set_mk, DL.wipe_nil, DL.wipe_cons, DL.bindT_nm, DL.bindT_tp, DL.frz_mk, DL.frzC_own, DL.frzC_fro, DL.fzs_nil, DL.fzs_cons, DL.add_int, DL.add_lst, DL.add_tup, DL.sub_int, DL.mul_int, DL.mul_lst, DL.mul_tup, DL.fdiv_int, DL.md_int, DL.lt_int, DL.le_int, DL.gt_int, DL.ge_int, DL.eq_any, DL.ne_any, DL.isin_any, DL.notin_any, DL.blOf_bl, DL.intOf_int, DL.len_lst, DL.len_tup, DL.len_scr, DL.ix_lst, DL.ix_tup, DL.ix_scr, DL.ix_dic, DL.eq_int, DL.eq_lints, DL.eq_lints_nil, DL.scr_eq_nil, DL.imm_int, DL.imm_bl, DL.imm_non, DL.imm_str, DL.imm_lst, DL.imm_tup, DL.imms_nil, DL.imms_cons, DL.imms_ints, DL.own_fro, DL.own_fre, DL.own_bor, DL.ownB_own, DL.ownB_fro, DL.clOf_fro, DL.clOf_fre, DL.clOf_bor, DL.isNon_non, DL.isNon_int, DL.isNon_tup, DL.isNon_lst, DL.isNon_str, DL.slice_lst, DL.slice_tup, DL.list_lst, DL.list_tup, DL.tuple_lst, DL.tuple_tup, DL.sum_lst, DL.sum_tup, DL.all_lst, DL.max_int, DL.min_int, DL.abs_int, DL.int_bl, DL.int_int, DL.intsOf_map, DL.blsOf_map, DL.truD_lst, DL.setD_len, DL.setD_srt, DL.sorted_lst, DL.sorted_dic, DL.get1_dic, DL.get2_dic, DL.count_lst, DL.recv_get, DL.recv_count, DL.recv_index, DL.keyOf_int, DL.keyOf_str, DL.appK_own, DL.extK_own, DL.setK_dic, DL.setK_lst, DL.isOwnL_own, DL.isOwn_own, DL.isi_ii, DL.isi_ib, DL.isi_tt, DL.isi_ss, DL.isi_ll, DL.isi_bi, DL.isi_bb, DL.isi_lt, DL.isi_tl, DL.at0, DL.at1, DL.at2, DL.last1, DL.last2, DL.last3, DL.at_ints, DL.encO_some, DL.encO_none, CRes.ok.injEq, D.bl.injEq, D.int.injEq, D.lst.injEq, D.tup.injEq, D.str.injEq, DL.ints_inj, Prod.mk.injEq, if_true, if_false, Bool.false_eq_true, Bool.true_eq_false, Bool.and_true, Bool.true_and, Bool.and_self, Bool.and_false, Bool.false_and, List.length_cons, List.length_nil, List.length_map, Nat.reduceAdd, Nat.reduceLeDiff, true_and, and_true, List.zip_cons_cons, List.zip_nil_right, List.foldl_cons, List.foldl_nil, bne_self_eq_false, Bool.bne_false, Bool.bne_true, Bool.not_false, Bool.not_true, Option.map_none, List.cons_append, List.nil_append, Nat.reduceLT, or_self, and_self, or_true, true_or, or_false, false_or, and_false, false_and, Int.cast_ofNat_Int, Int.reduceLT, Int.reduceLE, Int.reduceEq, Int.reduceNeg, Int.reduceAdd, Int.reduceSub, Int.reduceToNat, true_imp_iff, false_imp_iff, not_true_eq_false, not_false_eq_true, Bool.not_eq_true, Bool.not_eq_false, List.getElem?_cons_succ, List.getElem?_cons_zero, List.set_cons_zero, List.set_cons_succ, List.map_cons, List.map_nil, List.drop_zero, List.take_zero, DL.omap, DL.obind, eq_self, decide_true, decide_false, decide_eq_true_eq, decide_eq_false_iff_not, imp_false, Classical.not_not, reduceCtorEq, implies_true, DL.sq_at_at, DL.sq_at_of, DL.sq_at_back, DL.sq_at_rest, DL.sq_of_at, DL.sq_of_of, DL.sq_of_back, DL.sq_of_rest, DL.sq_back_at, DL.sq_back_of, DL.sq_back_back, DL.sq_back_rest, DL.sq_rest_at, DL.sq_rest_of, DL.sq_rest_back, DL.sq_rest_rest, DL.imm_ru, DL.imm_enc, DL.imm_encO, DL.run_pk, *])
def termM (ns : List Int) (k : Int) : Nat → Tm
  | 0 => .at 1
  | 1 => .at (1 + pk ns (k + 1) 3)
  | d + 2 => if pk ns k 7 < 2 then .at (1 + pk ns (k + 1) 3) else if pk ns k 7 = 2 then .of (termM ns (k + 3) (d + 1))
    else if pk ns k 7 = 3 then .rest (pk ns (k + 2) 3) (termM ns (k + 3) (d + 1)) else .back (pk ns (k + 2) 3) (termM ns (k + 3) (d + 1))
theorem termM_ok (ns : List Int) : ∀ (d : Nat) (k : Int), 1 ≤ d → (termM ns k d).okB d = true
  | 0, _, h => by omega
  | 1, k, _ => by
    have := pk_lt ns (k + 1) (m := 3) (by omega)
    simp [termM, Tm.okB]; omega
  | d + 2, k, _ => by
    have h1 := pk_lt ns (k + 1) (m := 3) (by omega)
    have h2 := pk_lt ns (k + 2) (m := 3) (by omega)
    have ih := termM_ok ns (d + 1) (k + 3) (by omega)
    simp only [termM]
    split
    · simp [Tm.okB]; omega
    · split
      · simpa [Tm.okB] using ih
      · split
        · simp only [Tm.okB, ih, Bool.and_true, decide_eq_true_eq]; omega
        · simp only [Tm.okB, ih, Bool.and_true, decide_eq_true_eq]; omega
theorem run_term0 {ns : List Int} {w : List WObj} : ∀ (d : Nat) (k : Int) (q : Nat), d + 2 ≤ q → 0 ≤ k → 1 ≤ d → run T q kf_l_term [.scr ns, .int k, .int d] w = .ok (termM ns k d).enc false w
  | 0, _, _, _, _, h => by omega
  | 1, k, q, hq, hk, _ => by
    obtain ⟨n, rfl⟩ : ∃ n, q = n + 1 := ⟨q - 1, by omega⟩
    refine run_w T_l_term rfl [.fro (.scr ns), .fro (.int k), .fro (.int 1), .un, .un] rfl ?_
    unfold fd_l_term
    walk_at "wp"
    simp [termM, Tm.enc]
  | d + 2, k, q, hq, hk, _ => by
    obtain ⟨n, rfl⟩ : ∃ n, q = n + 1 := ⟨q - 1, by omega⟩
    have ih := run_term0 (ns := ns) (w := w) (d + 1) (k + 3) n (by omega) (by omega) (by omega)
    have e1 : (((d + 2 : Nat) : Int) = 1) = False := by simp; omega
    have e2 : ((d + 2 : Nat) : Int) - 1 = ((d + 1 : Nat) : Int) := by omega
    refine run_w T_l_term rfl [.fro (.scr ns), .fro (.int k), .fro (.int (d + 2 : Nat)), .un, .un] rfl ?_
    unfold fd_l_term
    walk_at "wp"
    simp only [e1, e2, ih]
    refine ⟨fun h => ?_, fun h => ⟨fun z => z.elim, fun _ => ?_⟩⟩
    · try walk_at "wp"
      simp [termM, Tm.enc, h]
    · try walk_at "wp"
      refine ⟨fun h2 => ?_, fun h2 => ⟨fun h3 => ?_, fun h3 => ?_⟩⟩
      · simp [termM, Tm.enc, h2]
      · simp [termM, Tm.enc, h3]
      · simp [termM, Tm.enc, h, h2, h3]
theorem run_term {ns : List Int} {d k : Int} {q : Nat} {w : List WObj} (hq : d.toNat + 2 ≤ q) (hk : 0 ≤ k) (hd : 1 ≤ d) : run T q kf_l_term [.scr ns, .int k, .int d] w = .ok (termM ns k d.toNat).enc false w := by
  have := run_term0 (ns := ns) (w := w) d.toNat k q hq hk (by omega)
  rwa [Int.toNat_of_nonneg (by omega)] at this
def known (w : Int) : Ru :=
  if w = 0 then ⟨[1, 1], 0, [.back 0 (.at 1), .back 0 (.at 2)]⟩
  else if w = 1 then ⟨[1, 1], 0, [.back 0 (.at 1), .back 1 (.at 2)]⟩
  else if w = 2 then ⟨[1, 1], 0, [.of (.at 1), .back 0 (.at 1)]⟩
  else if w = 3 then ⟨[1], 0, [.rest 0 (.of (.at 1))]⟩
  else ⟨[1], 1, [.back 0 (.of (.at 1))]⟩
def firstM (ns : List Int) (k : Int) : List Int := (rangeI 0 (1 + pk ns (k + 9) 4)).map fun i => 1 + pk ns (k + 1 + i) 2
def ruleM (ns : List Int) (k : Int) : Ru :=
  if pk ns k 8 < 5 then (if 0 < pk ns (k + 10) 3 then known (pk ns k 8) else ⟨firstM ns k, (known (pk ns k 8)).more, (known (pk ns k 8)).terms⟩)
  else ⟨firstM ns k, pk ns (k + 7) 4 / 3, (rangeI 0 (1 + pk ns (k + 8) 2)).map fun i => termM ns (k + 11 + 10 * i) 3⟩
theorem known_at {w : Int} (h0 : 0 ≤ w) (h5 : w < 5) : atI [(known 0).enc, (known 1).enc, (known 2).enc, (known 3).enc, (known 4).enc] w = some (known w).enc := by
  have : w = 0 ∨ w = 1 ∨ w = 2 ∨ w = 3 ∨ w = 4 := by omega
  rcases this with rfl | rfl | rfl | rfl | rfl <;> rfl
theorem known_ok {w : Int} (h0 : 0 ≤ w) (h5 : w < 5) : (known w).Ok := by
  have : w = 0 ∨ w = 1 ∨ w = 2 ∨ w = 3 ∨ w = 4 := by omega
  rcases this with rfl | rfl | rfl | rfl | rfl <;> exact ⟨by decide⟩
theorem firstM_ok (ns : List Int) (k : Int) : 1 ≤ (firstM ns k).length ∧ (firstM ns k).length ≤ 4 ∧ ∀ i ∈ firstM ns k, 1 ≤ i ∧ i ≤ 2 := by
  have h := pk_lt ns (k + 9) (m := 4) (by omega)
  refine ⟨by simp [firstM, len_rangeI]; omega, by simp [firstM, len_rangeI]; omega, fun i hi => ?_⟩
  obtain ⟨j, _, rfl⟩ := List.mem_map.mp hi
  have := pk_lt ns (k + 1 + j) (m := 2) (by omega)
  omega
theorem ruleM_ok (ns : List Int) (k : Int) : (ruleM ns k).Ok := by
  obtain ⟨f1, f2, f3⟩ := firstM_ok ns k
  have h8 := pk_lt ns k (m := 8) (by omega)
  have h7 := pk_lt ns (k + 7) (m := 4) (by omega)
  have hs := pk_lt ns (k + 8) (m := 2) (by omega)
  have ff : ((firstM ns k).all fun i => decide (0 ≤ i ∧ i ≤ 9)) = true := List.all_eq_true.mpr fun i hi => by have := f3 i hi; simp; omega
  have fl : decide (1 ≤ (firstM ns k).length ∧ (firstM ns k).length ≤ 6) = true := by simp; omega
  constructor
  unfold ruleM
  split
  · rename_i h5
    have kn := (known_ok h8.1 h5).ok
    split
    · exact kn
    · simp only [Ru.okB, Bool.and_eq_true] at kn ⊢
      exact ⟨⟨⟨⟨fl, ff⟩, kn.1.1.2⟩, kn.1.2⟩, kn.2⟩
  · simp only [Ru.okB, Bool.and_eq_true]
    refine ⟨⟨⟨⟨fl, ff⟩, by simp; omega⟩, by simp [len_rangeI]; omega⟩, List.all_eq_true.mpr fun t ht => ?_⟩
    obtain ⟨j, _, rfl⟩ := List.mem_map.mp ht
    exact termM_ok ns 3 _ (by omega)
/-- more about drawn rules than what rules are -/
theorem ruleM_more (ns : List Int) (k : Int) : (ruleM ns k).first.length ≤ 4 ∧ (ruleM ns k).terms.length ≤ 2 ∧ (ruleM ns k).more ≤ 1 ∧ ∀ i ∈ (ruleM ns k).first, 1 ≤ i ∧ i ≤ 2 := by
  obtain ⟨f1, f2, f3⟩ := firstM_ok ns k
  have h8 := pk_lt ns k (m := 8) (by omega)
  have h7 := pk_lt ns (k + 7) (m := 4) (by omega)
  have hs := pk_lt ns (k + 8) (m := 2) (by omega)
  have kn : ∀ w : Int, (known w).first.length ≤ 4 ∧ (known w).terms.length ≤ 2 ∧ (known w).more ≤ 1 ∧ ∀ i ∈ (known w).first, 1 ≤ i ∧ i ≤ 2 := fun w => by
    unfold known
    (repeat' split) <;> simp
  unfold ruleM
  split
  · split
    · exact kn _
    · exact ⟨f2, (kn _).2.1, (kn _).2.2.1, f3⟩
  · refine ⟨f2, by simp [len_rangeI]; omega, by simp; omega, f3⟩
local macro_rules | `(tactic| walk_at "wp") => `(tactic| try simp (disch := first | assumption | omega) only [↓DL.H_ok, ↓DL.H_bind, ↓DL.H_opt, ↓DL.optK_some, ↓DL.optK_ite, ↓DL.condK_true, ↓DL.condK_false, ↓DL.condK_dec, ↓DL.condK_not, ↓DL.varK_fro, ↓DL.varK_own, ↓DL.callR_ok, ↓DL.callR_exc, ↓DL.e_var, ↓DL.e_glob, ↓DL.e_int, ↓DL.e_bl, ↓DL.e_str, ↓DL.e_non, ↓DL.e_bin, ↓DL.e_neg, ↓DL.H_asBl, ↓DL.e_not, ↓DL.e_and, ↓DL.e_or, ↓DL.e_and1, ↓DL.e_or1, ↓DL.H_if, ↓DL.e_and2, ↓DL.e_or2, ↓DL.e_cmp, ↓DL.e_chain, ↓DL.e_isN, ↓DL.e_isB, ↓DL.e_ife, ↓DL.H_ite, ↓DL.e_tup, ↓DL.e_lst, ↓DL.e_dic0, ↓DL.e_fz0, ↓DL.e_fz, ↓DL.e_es0, ↓DL.e_es, ↓DL.e_ix, ↓DL.e_slice, ↓DL.e_o0, ↓DL.e_o, ↓DL.e_bi, ↓DL.e_isi, ↓DL.e_meth, ↓DL.e_call, ↓DL.e_revs, ↓DL.e_orT, ↓DL.e_setf, ↓DL.HO_out, ↓DL.x_nil, ↓DL.x_cons, ↓DL.HO_nx, ↓DL.HO_if, ↓DL.HO_ite, ↓DL.x_asg, ↓DL.x_expr, ↓DL.x_ret, ↓DL.x_ite, ↓DL.x_pass, ↓DL.x_brk, ↓DL.x_raise, ↓DL.x_par, ↓DL.x_asgT, ↓DL.x_append', ↓DL.x_extend', ↓DL.x_setix', ↓DL.s_seq, ↓DL.s_rng1, ↓DL.s_rng2, ↓DL.s_enum, ↓DL.s_zip, ↓DL.c_none, ↓DL.c_some, DL.seqL_lst, DL.seqL_tup, DL.enumL_lst, DL.zipL_lst, DL.zipL_tup, DL.rngD_ok, DL.len_rangeI, DL.stK_mk, DL.put_fro, DL.put_fre, DL.put_bor, DL.fz_fro, DL.fz_fre, DL.fz_bor, DL.set_mk, DL.wipe_nil, DL.wipe_cons, DL.bindT_nm, DL.bindT_tp, DL.frz_mk, DL.frzC_own, DL.frzC_fro, DL.fzs_nil, DL.fzs_cons, DL.add_int, DL.add_lst, DL.add_tup, DL.sub_int, DL.mul_int, DL.mul_lst, DL.mul_tup, DL.fdiv_int, DL.md_int, DL.lt_int, DL.le_int, DL.gt_int, DL.ge_int, DL.eq_any, DL.ne_any, DL.isin_any, DL.notin_any, DL.blOf_bl, DL.intOf_int, DL.len_lst, DL.len_tup, DL.len_scr, DL.ix_lst, DL.ix_tup, DL.ix_scr, DL.ix_dic, DL.eq_int, DL.eq_lints, DL.eq_lints_nil, DL.scr_eq_nil, DL.imm_int, DL.imm_bl, DL.imm_non, DL.imm_str, DL.imm_lst, DL.imm_tup, DL.imms_nil, DL.imms_cons, DL.imms_ints, DL.own_fro, DL.own_fre, DL.own_bor, DL.ownB_own, DL.ownB_fro, DL.clOf_fro, DL.clOf_fre, DL.clOf_bor, DL.isNon_non, DL.isNon_int, DL.isNon_tup, DL.isNon_lst, DL.isNon_str, DL.slice_lst, DL.slice_tup, DL.list_lst, DL.list_tup, DL.tuple_lst, DL.tuple_tup, DL.sum_lst, DL.sum_tup, DL.all_lst, DL.max_int, DL.min_int, DL.abs_int, DL.int_bl, DL.int_int, DL.intsOf_map, DL.blsOf_map, DL.truD_lst, DL.setD_len, DL.setD_srt, DL.sorted_lst, DL.sorted_dic, DL.get1_dic, DL.get2_dic, DL.count_lst, DL.recv_get, DL.recv_count, DL.recv_index, DL.keyOf_int, DL.keyOf_str, DL.appK_own, DL.extK_own, DL.setK_dic, DL.setK_lst, DL.isOwnL_own, DL.isOwn_own, DL.isi_ii, DL.isi_ib, DL.isi_tt, DL.isi_ss, DL.isi_ll, DL.isi_bi, DL.isi_bb, DL.isi_lt, DL.isi_tl, DL.at0, DL.at1, DL.at2, DL.last1, DL.last2, DL.last3, DL.at_ints, DL.encO_some, DL.encO_none, CRes.ok.injEq, D.bl.injEq, D.int.injEq, D.lst.injEq, D.tup.injEq, D.str.injEq, DL.ints_inj, Prod.mk.injEq, if_true, if_false, Bool.false_eq_true, Bool.true_eq_false, Bool.and_true, Bool.true_and, Bool.and_self, Bool.and_false, Bool.false_and, List.length_cons, List.length_nil, List.length_map, Nat.reduceAdd, Nat.reduceLeDiff, true_and, and_true, List.zip_cons_cons, List.zip_nil_right, List.foldl_cons, List.foldl_nil, bne_self_eq_false, Bool.bne_false, Bool.bne_true, Bool.not_false, Bool.not_true, Option.map_none, List.cons_append, List.nil_append, Nat.reduceLT, or_self, and_self, or_true, true_or, or_false, false_or, and_false, false_and, Int.cast_ofNat_Int, Int.reduceLT, Int.reduceLE, Int.reduceEq, Int.reduceNeg, Int.reduceAdd, Int.reduceSub, Int.reduceToNat, true_imp_iff, false_imp_iff, not_true_eq_false, not_false_eq_true, Bool.not_eq_true, Bool.not_eq_false, List.getElem?_cons_succ, List.getElem?_cons_zero, List.set_cons_zero, List.set_cons_succ, List.map_cons, List.map_nil, List.drop_zero, List.take_zero, DL.omap, DL.obind, eq_self, decide_true, decide_false, decide_eq_true_eq, decide_eq_false_iff_not, imp_false, Classical.not_not, reduceCtorEq, implies_true, DL.sq_at_at, DL.sq_at_of, DL.sq_at_back, DL.sq_at_rest, DL.sq_of_at, DL.sq_of_of, DL.sq_of_back, DL.sq_of_rest, DL.sq_back_at, DL.sq_back_of, DL.sq_back_back, DL.sq_back_rest, DL.sq_rest_at, DL.sq_rest_of, DL.sq_rest_back, DL.sq_rest_rest, DL.imm_ru, DL.imm_enc, DL.imm_encO, DL.run_pk, DL.run_term, DL.imms_enc])
local macro_rules | `(tactic| walk_at "ws") => `(tactic| try simp (disch := first | assumption | omega) only [↓DL.H_ok, ↓DL.H_bind, ↓DL.H_opt, ↓DL.optK_some, ↓DL.optK_ite, ↓DL.condK_true, ↓DL.condK_false, ↓DL.condK_dec, ↓DL.condK_not, ↓DL.varK_fro, ↓DL.varK_own, ↓DL.callR_ok, ↓DL.callR_exc, ↓DL.e_var, ↓DL.e_glob, ↓DL.e_int, ↓DL.e_bl, ↓DL.e_str, ↓DL.e_non, ↓DL.e_bin, ↓DL.e_neg, ↓DL.H_asBl, ↓DL.e_not, ↓DL.e_and, ↓DL.e_or, ↓DL.e_and1, ↓DL.e_or1, ↓DL.H_if, ↓DL.e_and2, ↓DL.e_or2, ↓DL.e_cmp, ↓DL.e_chain, ↓DL.e_isN, ↓DL.e_isB, ↓DL.e_ife, ↓DL.H_ite, ↓DL.e_tup, ↓DL.e_lst, ↓DL.e_dic0, ↓DL.e_fz0, ↓DL.e_fz, ↓DL.e_es0, ↓DL.e_es, ↓DL.e_ix, ↓DL.e_slice, ↓DL.e_o0, ↓DL.e_o, ↓DL.e_bi, ↓DL.e_isi, ↓DL.e_meth, ↓DL.e_call, ↓DL.e_revs, ↓DL.e_orT, ↓DL.e_setf, ↓DL.HO_out, ↓DL.x_nil, ↓DL.x_cons, ↓DL.HO_nx, ↓DL.HO_if, ↓DL.HO_ite, ↓DL.x_asg, ↓DL.x_expr, ↓DL.x_ret, ↓DL.x_ite, ↓DL.x_pass, ↓DL.x_brk, ↓DL.x_raise, ↓DL.x_par, ↓DL.x_asgT, ↓DL.x_append', ↓DL.x_extend', ↓DL.x_setix', ↓DL.s_seq, ↓DL.s_rng1, ↓DL.s_rng2, ↓DL.s_enum, ↓DL.s_zip, ↓DL.c_none, ↓DL.c_some, DL.seqL_lst, DL.seqL_tup, DL.enumL_lst, DL.zipL_lst, DL.zipL_tup, DL.rngD_ok, DL.len_rangeI, DL.stK_mk, DL.put_fro, DL.put_fre, DL.put_bor, DL.fz_fro, DL.fz_fre, DL.fz_bor, DL.set_mk, DL.wipe_nil, DL.wipe_cons, DL.bindT_nm, DL.bindT_tp, DL.frz_mk, DL.frzC_own, DL.frzC_fro, DL.fzs_nil, DL.fzs_cons, DL.add_int, DL.add_lst, DL.add_tup, DL.sub_int, DL.mul_int, DL.mul_lst, DL.mul_tup, DL.fdiv_int, DL.md_int, DL.lt_int, DL.le_int, DL.gt_int, DL.ge_int, DL.eq_any, DL.ne_any, DL.isin_any, DL.notin_any, DL.blOf_bl, DL.intOf_int, DL.len_lst, DL.len_tup, DL.len_scr, DL.ix_lst, DL.ix_tup, DL.ix_scr, DL.ix_dic, DL.eq_int, DL.eq_lints, DL.eq_lints_nil, DL.scr_eq_nil, DL.imm_int, DL.imm_bl, DL.imm_non, DL.imm_str, DL.imm_lst, DL.imm_tup, DL.imms_nil, DL.imms_cons, DL.imms_ints, DL.own_fro, DL.own_fre, DL.own_bor, DL.ownB_own, DL.ownB_fro, DL.clOf_fro, DL.clOf_fre, DL.clOf_bor, DL.isNon_non, DL.isNon_int, DL.isNon_tup, DL.isNon_lst, DL.isNon_str, DL.slice_lst, DL.slice_tup, DL.list_lst, DL.list_tup, DL.tuple_lst, DL.tuple_tup, DL.sum_lst, DL.sum_tup, DL.all_lst, DL.max_int, DL.min_int, DL.abs_int, DL.int_bl, DL.int_int, DL.intsOf_map, DL.blsOf_map, DL.truD_lst, DL.setD_len, DL.setD_srt, DL.sorted_lst, DL.sorted_dic, DL.get1_dic, DL.get2_dic, DL.count_lst, DL.recv_get, DL.recv_count, DL.recv_index, DL.keyOf_int, DL.keyOf_str, DL.appK_own, DL.extK_own, DL.setK_dic, DL.setK_lst, DL.isOwnL_own, DL.isOwn_own, DL.isi_ii, DL.isi_ib, DL.isi_tt, DL.isi_ss, DL.isi_ll, DL.isi_bi, DL.isi_bb, DL.isi_lt, DL.isi_tl, DL.at0, DL.at1, DL.at2, DL.last1, DL.last2, DL.last3, DL.at_ints, DL.encO_some, DL.encO_none, CRes.ok.injEq, D.bl.injEq, D.int.injEq, D.lst.injEq, D.tup.injEq, D.str.injEq, DL.ints_inj, Prod.mk.injEq, if_true, if_false, Bool.false_eq_true, Bool.true_eq_false, Bool.and_true, Bool.true_and, Bool.and_self, Bool.and_false, Bool.false_and, List.length_cons, List.length_nil, List.length_map, Nat.reduceAdd, Nat.reduceLeDiff, true_and, and_true, List.zip_cons_cons, List.zip_nil_right, List.foldl_cons, List.foldl_nil, bne_self_eq_false, Bool.bne_false, Bool.bne_true, Bool.not_false, Bool.not_true, Option.map_none, List.cons_append, List.nil_append, Nat.reduceLT, or_self, and_self, or_true, true_or, or_false, false_or, and_false, false_and, Int.cast_ofNat_Int, Int.reduceLT, Int.reduceLE, Int.reduceEq, Int.reduceNeg, Int.reduceAdd, Int.reduceSub, Int.reduceToNat, true_imp_iff, false_imp_iff, not_true_eq_false, not_false_eq_true, Bool.not_eq_true, Bool.not_eq_false, List.getElem?_cons_succ, List.getElem?_cons_zero, List.set_cons_zero, List.set_cons_succ, List.map_cons, List.map_nil, List.drop_zero, List.take_zero, DL.omap, DL.obind, eq_self, decide_true, decide_false, decide_eq_true_eq, decide_eq_false_iff_not, imp_false, Classical.not_not, reduceCtorEq, implies_true, DL.sq_at_at, DL.sq_at_of, DL.sq_at_back, DL.sq_at_rest, DL.sq_of_at, DL.sq_of_of, DL.sq_of_back, DL.sq_of_rest, DL.sq_back_at, DL.sq_back_of, DL.sq_back_back, DL.sq_back_rest, DL.sq_rest_at, DL.sq_rest_of, DL.sq_rest_back, DL.sq_rest_rest, DL.imm_ru, DL.imm_enc, DL.imm_encO, DL.run_pk, DL.run_term, DL.imms_enc, *])
local macro_rules | `(tactic| walk_at "wi") => `(tactic| try simp (disch := first | assumption | omega) only [↓DL.H_ok, ↓DL.H_bind, ↓DL.H_opt, ↓DL.optK_some, ↓DL.optK_ite, ↓DL.condK_true, ↓DL.condK_false, ↓DL.condK_dec, ↓DL.condK_not, ↓DL.varK_fro, ↓DL.varK_own, ↓DL.callR_ok, ↓DL.callR_exc, ↓DL.e_var, ↓DL.e_glob, ↓DL.e_int, ↓DL.e_bl, ↓DL.e_str, ↓DL.e_non, ↓DL.e_bin, ↓DL.e_neg, ↓DL.H_asBl, ↓DL.e_not, ↓DL.e_and, ↓DL.e_or, ↓DL.e_and1, ↓DL.e_or1, ↓DL.H_if, ↓DL.e_and2, ↓DL.e_or2, ↓DL.e_cmp, ↓DL.e_chain, ↓DL.e_isN, ↓DL.e_isB, ↓DL.H_ite, ↓DL.e_tup, ↓DL.e_lst, ↓DL.e_dic0, ↓DL.e_fz0, ↓DL.e_fz, ↓DL.e_es0, ↓DL.e_es, ↓DL.e_ix, ↓DL.e_slice, ↓DL.e_o0, ↓DL.e_o, ↓DL.e_bi, ↓DL.e_isi, ↓DL.e_meth, ↓DL.e_call, ↓DL.e_revs, ↓DL.e_orT, ↓DL.e_setf, ↓DL.HO_out, ↓DL.x_nil, ↓DL.x_cons, ↓DL.HO_nx, ↓DL.HO_if, ↓DL.HO_ite, ↓DL.x_asg, ↓DL.x_expr, ↓DL.x_ret, ↓DL.x_pass, ↓DL.x_brk, ↓DL.x_raise, ↓DL.x_par, ↓DL.x_asgT, ↓DL.x_append', ↓DL.x_extend', ↓DL.x_setix', ↓DL.s_seq, ↓DL.s_rng1, ↓DL.s_rng2, ↓DL.s_enum, ↓DL.s_zip, ↓DL.c_none, ↓DL.c_some, DL.seqL_lst, DL.seqL_tup, DL.enumL_lst, DL.zipL_lst, DL.zipL_tup, DL.rngD_ok, DL.len_rangeI, DL.stK_mk, DL.put_fro, DL.put_fre, DL.put_bor, DL.fz_fro, DL.fz_fre, DL.fz_bor, DL.set_mk, DL.wipe_nil, DL.wipe_cons, DL.bindT_nm, DL.bindT_tp, DL.frz_mk, DL.frzC_own, DL.frzC_fro, DL.fzs_nil, DL.fzs_cons, DL.add_int, DL.add_lst, DL.add_tup, DL.sub_int, DL.mul_int, DL.mul_lst, DL.mul_tup, DL.fdiv_int, DL.md_int, DL.lt_int, DL.le_int, DL.gt_int, DL.ge_int, DL.eq_any, DL.ne_any, DL.isin_any, DL.notin_any, DL.blOf_bl, DL.intOf_int, DL.len_lst, DL.len_tup, DL.len_scr, DL.ix_lst, DL.ix_tup, DL.ix_scr, DL.ix_dic, DL.eq_int, DL.eq_lints, DL.eq_lints_nil, DL.scr_eq_nil, DL.imm_int, DL.imm_bl, DL.imm_non, DL.imm_str, DL.imm_lst, DL.imm_tup, DL.imms_nil, DL.imms_cons, DL.imms_ints, DL.own_fro, DL.own_fre, DL.own_bor, DL.ownB_own, DL.ownB_fro, DL.clOf_fro, DL.clOf_fre, DL.clOf_bor, DL.isNon_non, DL.isNon_int, DL.isNon_tup, DL.isNon_lst, DL.isNon_str, DL.slice_lst, DL.slice_tup, DL.list_lst, DL.list_tup, DL.tuple_lst, DL.tuple_tup, DL.sum_lst, DL.sum_tup, DL.all_lst, DL.max_int, DL.min_int, DL.abs_int, DL.int_bl, DL.int_int, DL.intsOf_map, DL.blsOf_map, DL.truD_lst, DL.setD_len, DL.setD_srt, DL.sorted_lst, DL.sorted_dic, DL.get1_dic, DL.get2_dic, DL.count_lst, DL.recv_get, DL.recv_count, DL.recv_index, DL.keyOf_int, DL.keyOf_str, DL.appK_own, DL.extK_own, DL.setK_dic, DL.setK_lst, DL.isOwnL_own, DL.isOwn_own, DL.isi_ii, DL.isi_ib, DL.isi_tt, DL.isi_ss, DL.isi_ll, DL.isi_bi, DL.isi_bb, DL.isi_lt, DL.isi_tl, DL.at0, DL.at1, DL.at2, DL.last1, DL.last2, DL.last3, DL.at_ints, DL.encO_some, DL.encO_none, CRes.ok.injEq, D.bl.injEq, D.int.injEq, D.lst.injEq, D.tup.injEq, D.str.injEq, DL.ints_inj, Prod.mk.injEq, if_true, if_false, Bool.false_eq_true, Bool.true_eq_false, Bool.and_true, Bool.true_and, Bool.and_self, Bool.and_false, Bool.false_and, List.length_cons, List.length_nil, List.length_map, Nat.reduceAdd, Nat.reduceLeDiff, true_and, and_true, List.zip_cons_cons, List.zip_nil_right, List.foldl_cons, List.foldl_nil, bne_self_eq_false, Bool.bne_false, Bool.bne_true, Bool.not_false, Bool.not_true, Option.map_none, List.cons_append, List.nil_append, Nat.reduceLT, or_self, and_self, or_true, true_or, or_false, false_or, and_false, false_and, Int.cast_ofNat_Int, Int.reduceLT, Int.reduceLE, Int.reduceEq, Int.reduceNeg, Int.reduceAdd, Int.reduceSub, Int.reduceToNat, true_imp_iff, false_imp_iff, not_true_eq_false, not_false_eq_true, Bool.not_eq_true, Bool.not_eq_false, List.getElem?_cons_succ, List.getElem?_cons_zero, List.set_cons_zero, List.set_cons_succ, List.map_cons, List.map_nil, List.drop_zero, List.take_zero, DL.omap, DL.obind, eq_self, decide_true, decide_false, decide_eq_true_eq, decide_eq_false_iff_not, imp_false, Classical.not_not, reduceCtorEq, implies_true, DL.sq_at_at, DL.sq_at_of, DL.sq_at_back, DL.sq_at_rest, DL.sq_of_at, DL.sq_of_of, DL.sq_of_back, DL.sq_of_rest, DL.sq_back_at, DL.sq_back_of, DL.sq_back_back, DL.sq_back_rest, DL.sq_rest_at, DL.sq_rest_of, DL.sq_rest_back, DL.sq_rest_rest, DL.imm_ru, DL.imm_enc, DL.imm_encO, DL.run_pk, DL.run_term, DL.imms_enc])
local macro_rules | `(tactic| walk_at "wj") => `(tactic| try simp (disch := first | assumption | omega) only [↓DL.H_ok, ↓DL.H_bind, ↓DL.H_opt, ↓DL.optK_some, ↓DL.optK_ite, ↓DL.condK_true, ↓DL.condK_false, ↓DL.condK_dec, ↓DL.condK_not, ↓DL.varK_fro, ↓DL.varK_own, ↓DL.callR_ok, ↓DL.callR_exc, ↓DL.e_var, ↓DL.e_glob, ↓DL.e_int, ↓DL.e_bl, ↓DL.e_str, ↓DL.e_non, ↓DL.e_bin, ↓DL.e_neg, ↓DL.H_asBl, ↓DL.e_not, ↓DL.e_and, ↓DL.e_or, ↓DL.e_and1, ↓DL.e_or1, ↓DL.H_if, ↓DL.e_and2, ↓DL.e_or2, ↓DL.e_cmp, ↓DL.e_chain, ↓DL.e_isN, ↓DL.e_isB, ↓DL.H_ite, ↓DL.e_tup, ↓DL.e_lst, ↓DL.e_dic0, ↓DL.e_fz0, ↓DL.e_fz, ↓DL.e_es0, ↓DL.e_es, ↓DL.e_ix, ↓DL.e_slice, ↓DL.e_o0, ↓DL.e_o, ↓DL.e_bi, ↓DL.e_isi, ↓DL.e_meth, ↓DL.e_call, ↓DL.e_revs, ↓DL.e_orT, ↓DL.e_setf, ↓DL.HO_out, ↓DL.x_nil, ↓DL.x_cons, ↓DL.HO_nx, ↓DL.HO_if, ↓DL.HO_ite, ↓DL.x_asg, ↓DL.x_expr, ↓DL.x_ret, ↓DL.x_pass, ↓DL.x_brk, ↓DL.x_raise, ↓DL.x_par, ↓DL.x_asgT, ↓DL.x_append', ↓DL.x_extend', ↓DL.x_setix', ↓DL.s_seq, ↓DL.s_rng1, ↓DL.s_rng2, ↓DL.s_enum, ↓DL.s_zip, ↓DL.c_none, ↓DL.c_some, DL.seqL_lst, DL.seqL_tup, DL.enumL_lst, DL.zipL_lst, DL.zipL_tup, DL.rngD_ok, DL.len_rangeI, DL.stK_mk, DL.put_fro, DL.put_fre, DL.put_bor, DL.fz_fro, DL.fz_fre, DL.fz_bor, DL.set_mk, DL.wipe_nil, DL.wipe_cons, DL.bindT_nm, DL.bindT_tp, DL.frz_mk, DL.frzC_own, DL.frzC_fro, DL.fzs_nil, DL.fzs_cons, DL.add_int, DL.add_lst, DL.add_tup, DL.sub_int, DL.mul_int, DL.mul_lst, DL.mul_tup, DL.fdiv_int, DL.md_int, DL.lt_int, DL.le_int, DL.gt_int, DL.ge_int, DL.eq_any, DL.ne_any, DL.isin_any, DL.notin_any, DL.blOf_bl, DL.intOf_int, DL.len_lst, DL.len_tup, DL.len_scr, DL.ix_lst, DL.ix_tup, DL.ix_scr, DL.ix_dic, DL.eq_int, DL.eq_lints, DL.eq_lints_nil, DL.scr_eq_nil, DL.imm_int, DL.imm_bl, DL.imm_non, DL.imm_str, DL.imm_lst, DL.imm_tup, DL.imms_nil, DL.imms_cons, DL.imms_ints, DL.own_fro, DL.own_fre, DL.own_bor, DL.ownB_own, DL.ownB_fro, DL.clOf_fro, DL.clOf_fre, DL.clOf_bor, DL.isNon_non, DL.isNon_int, DL.isNon_tup, DL.isNon_lst, DL.isNon_str, DL.slice_lst, DL.slice_tup, DL.list_lst, DL.list_tup, DL.tuple_lst, DL.tuple_tup, DL.sum_lst, DL.sum_tup, DL.all_lst, DL.max_int, DL.min_int, DL.abs_int, DL.int_bl, DL.int_int, DL.intsOf_map, DL.blsOf_map, DL.truD_lst, DL.setD_len, DL.setD_srt, DL.sorted_lst, DL.sorted_dic, DL.get1_dic, DL.get2_dic, DL.count_lst, DL.recv_get, DL.recv_count, DL.recv_index, DL.keyOf_int, DL.keyOf_str, DL.appK_own, DL.extK_own, DL.setK_dic, DL.setK_lst, DL.isOwnL_own, DL.isOwn_own, DL.isi_ii, DL.isi_ib, DL.isi_tt, DL.isi_ss, DL.isi_ll, DL.isi_bi, DL.isi_bb, DL.isi_lt, DL.isi_tl, DL.at0, DL.at1, DL.at2, DL.last1, DL.last2, DL.last3, DL.at_ints, DL.encO_some, DL.encO_none, CRes.ok.injEq, D.bl.injEq, D.int.injEq, D.lst.injEq, D.tup.injEq, D.str.injEq, DL.ints_inj, Prod.mk.injEq, if_true, if_false, Bool.false_eq_true, Bool.true_eq_false, Bool.and_true, Bool.true_and, Bool.and_self, Bool.and_false, Bool.false_and, List.length_cons, List.length_nil, List.length_map, Nat.reduceAdd, Nat.reduceLeDiff, true_and, and_true, List.zip_cons_cons, List.zip_nil_right, List.foldl_cons, List.foldl_nil, bne_self_eq_false, Bool.bne_false, Bool.bne_true, Bool.not_false, Bool.not_true, Option.map_none, List.cons_append, List.nil_append, Nat.reduceLT, or_self, and_self, or_true, true_or, or_false, false_or, and_false, false_and, Int.cast_ofNat_Int, Int.reduceLT, Int.reduceLE, Int.reduceEq, Int.reduceNeg, Int.reduceAdd, Int.reduceSub, Int.reduceToNat, true_imp_iff, false_imp_iff, not_true_eq_false, not_false_eq_true, Bool.not_eq_true, Bool.not_eq_false, List.getElem?_cons_succ, List.getElem?_cons_zero, List.set_cons_zero, List.set_cons_succ, List.map_cons, List.map_nil, List.drop_zero, List.take_zero, DL.omap, DL.obind, eq_self, decide_true, decide_false, decide_eq_true_eq, decide_eq_false_iff_not, imp_false, Classical.not_not, reduceCtorEq, implies_true, DL.sq_at_at, DL.sq_at_of, DL.sq_at_back, DL.sq_at_rest, DL.sq_of_at, DL.sq_of_of, DL.sq_of_back, DL.sq_of_rest, DL.sq_back_at, DL.sq_back_of, DL.sq_back_back, DL.sq_back_rest, DL.sq_rest_at, DL.sq_rest_of, DL.sq_rest_back, DL.sq_rest_rest, DL.imm_ru, DL.imm_enc, DL.imm_encO, DL.run_pk, DL.run_term, DL.imms_enc, *])
theorem rule_body {n : Nat} (hn : 6 ≤ n) (ns : List Int) (k : Int) (w : List WObj) (hk : 0 ≤ k) : HO (execB (run T n) fd_l_rule_0276.body ⟨[.fro (.scr ns), .fro (.int k), .un, .un, .un, .un, .un, .un], w⟩) (fun s => CRes.ok (ruleM ns k).enc false w = .ok .non false s.w) (fun v s => CRes.ok (ruleM ns k).enc false w = .ok v.1 (ownK s v.2) s.w) (fun _ => False) (fun j s => CRes.ok (ruleM ns k).enc false w = .exc j s.w) := by
  unfold fd_l_rule_0276
  have h8 := pk_lt ns k (m := 8) (by omega)
  have h9 := pk_lt ns (k + 9) (m := 4) (by omega)
  walk_at "wp"
  refine e_lcM (rangeI 0 (1 + pk ns (k + 9) 4)) .int (fun i => .int (1 + pk ns (k + 1 + i) 2)) ?_
  walk_at "wp"
  refine ⟨by omega, fun i hi => ?_, ?_⟩
  · have := mem_rangeI.mp hi
    walk_at "wp"
  · rw [show ((rangeI 0 (1 + pk ns (k + 9) 4)).map fun i => D.int (1 + pk ns (k + 1 + i) 2)) = (firstM ns k).map .int by simp [firstM]]
    walk_at "wp"
    refine ⟨fun h5 => ?_, fun h5 => ?_⟩
    · have hx := known_at h8.1 h5
      obtain ⟨z, hz⟩ : ∃ z, z = known (pk ns k 8) := ⟨_, rfl⟩
      rw [← hz] at hx
      have hz2 : (if 0 < pk ns (k + 10) 3 then z else ⟨firstM ns k, z.more, z.terms⟩) = ruleM ns k := by
        unfold ruleM
        rw [if_pos h5, hz]
      rw [← hz2]
      obtain ⟨ze, hze⟩ : ∃ ze, ze = z.enc := ⟨_, rfl⟩
      rw [← hze] at hx
      simp only [known, Ru.enc, Tm.enc, List.map_cons, List.map_nil, Int.reduceEq, if_true, if_false] at hx
      rw [hx]
      walk_at "wp"
      refine ⟨fun hp => ?_, fun hp => ?_⟩
      · rw [if_pos hp, hze]
      · rw [if_neg hp, hze]
        simp only [Ru.enc]
        walk_at "wp"
    · have h7 := pk_lt ns (k + 7) (m := 4) (by omega)
      have hs := pk_lt ns (k + 8) (m := 2) (by omega)
      refine e_lcM (rangeI 0 (1 + pk ns (k + 8) 2)) .int (fun i => (termM ns (k + 11 + 10 * i) 3).enc) ?_
      walk_at "wp"
      refine ⟨by omega, fun i hi => ?_, ?_⟩
      · have := mem_rangeI.mp hi
        rw [run_term (by simp; omega) (by omega) (by omega)]
        walk_at "wp"
      · rw [show ((rangeI 0 (1 + pk ns (k + 8) 2)).map fun i => (termM ns (k + 11 + 10 * i) 3).enc) = ((rangeI 0 (1 + pk ns (k + 8) 2)).map fun i => termM ns (k + 11 + 10 * i) 3).map Tm.enc by simp]
        walk_at "wp"
        unfold ruleM
        rw [if_neg h5]
        simp only [Ru.enc]
theorem run_rule {m : Nat} {ns : List Int} {k : Int} {w : List WObj} (hm : 7 ≤ m) (hk : 0 ≤ k) : run T m kf_l_rule_0276 [.scr ns, .int k] w = .ok (ruleM ns k).enc false w := by
  obtain ⟨n, rfl⟩ : ∃ n, m = n + 1 := ⟨m - 1, by omega⟩
  exact run_w T_l_rule_0276 rfl [.fro (.scr ns), .fro (.int k), .un, .un, .un, .un, .un, .un] rfl (rule_body (by omega) ns k w hk)
theorem run_ruleB {m : Nat} {ns : List Int} {k : Int} {w : List WObj} (hm : 7 ≤ m) (hk : 0 ≤ k) : run T m kf_l_rule_bd0c [.scr ns, .int k] w = .ok (ruleM ns k).enc false w := by
  obtain ⟨n, rfl⟩ : ∃ n, m = n + 1 := ⟨m - 1, by omega⟩
  exact run_w T_l_rule_bd0c rfl [.fro (.scr ns), .fro (.int k), .un, .un, .un, .un, .un, .un] rfl (rule_body (by omega) ns k w hk)
/-! rows and their beginnings -/
theorem from_pre (r : Ru) : ∀ (k : Nat) (row : List Int), (r.from k row).take row.length = row
  | 0, row => by simp [Ru.from]
  | k + 1, row => by
    simp only [Ru.from]
    split
    · simp
    · rename_i x _
      have := from_pre r k (row ++ [x])
      have h2 : ((r.from k (row ++ [x])).take (row ++ [x]).length).take row.length = (row ++ [x]).take row.length := by rw [this]
      rw [List.take_take, Nat.min_eq_left (by simp)] at h2
      rw [h2]
      simp
theorem from_take (r : Ru) : ∀ (j k : Nat) (row : List Int), (r.from (j + k) row).take (row.length + j) = r.from j row
  | 0, k, row => by
    rw [Nat.zero_add, Nat.add_zero]
    simpa [Ru.from] using from_pre r k row
  | j + 1, k, row => by
    rw [show j + 1 + k = (j + k) + 1 by omega]
    simp only [Ru.from]
    split
    · rw [List.take_of_length_le (by omega)]
    · rename_i x _
      have := from_take r j k (row ++ [x])
      rw [show (row ++ [x]).length + j = row.length + (j + 1) by simp; omega] at this
      exact this
theorem row_take (r : Ru) {m M : Nat} (h : m ≤ M) : r.row m = (r.row M).take m := by
  unfold Ru.row
  by_cases h1 : m ≤ r.first.length
  · rw [show m - r.first.length = 0 by omega]
    simp only [Ru.from]
    have p := from_pre r (M - r.first.length) (r.first.take M)
    have q : ((r.from (M - r.first.length) (r.first.take M)).take (r.first.take M).length).take m = (r.first.take M).take m := by rw [p]
    rw [List.take_take, List.take_take, List.length_take] at q
    rw [Nat.min_eq_left (by omega), Nat.min_eq_left h] at q
    exact q.symm
  · have e1 : r.first.take m = r.first := List.take_of_length_le (by omega)
    have e2 : r.first.take M = r.first := List.take_of_length_le (by omega)
    rw [e1, e2]
    have := from_take r (m - r.first.length) (M - m) r.first
    rw [show m - r.first.length + (M - m) = M - r.first.length by omega, show r.first.length + (m - r.first.length) = m by omega] at this
    exact this.symm
theorem row_len (r : Ru) (m : Nat) : (r.row m).length ≤ m := by
  unfold Ru.row
  have := from_len r (m - r.first.length) (r.first.take m)
  rw [List.length_take] at this
  omega
/-- the first numbers -/
theorem row_first (r : Ru) {m : Nat} (h : m ≤ r.first.length) : r.row m = r.first.take m := by
  unfold Ru.row
  rw [show m - r.first.length = 0 by omega]
  rfl
theorem row_len_first (r : Ru) {m : Nat} (h : r.first.length ≤ m) : r.first.length ≤ (r.row m).length := by
  have e := row_take r h
  rw [row_first r (Nat.le_refl _)] at e
  have := congrArg List.length e
  rw [List.length_take, List.length_take] at this
  omega
theorem row_pos (r : Ru) {m : Nat} (h1 : 1 ≤ m) (h2 : 1 ≤ r.first.length) : 1 ≤ (r.row m).length := by
  have h := row_take r h1
  rw [row_first r h2] at h
  have := congrArg List.length h
  rw [List.length_take, List.length_take] at this
  omega
/-- a row that has fewer places than asked ends: longer ones are the same -/
theorem from_stop (r : Ru) : ∀ (k j : Nat) (row : List Int), (r.from k row).length < row.length + k → r.from (k + j) row = r.from k row
  | 0, j, row, h => by simp [Ru.from] at h
  | k + 1, j, row, h => by
    rw [show k + 1 + j = (k + j) + 1 by omega]
    simp only [Ru.from] at h ⊢
    cases q : r.next row with
    | none => rfl
    | some x =>
      simp only [q] at h
      have := from_stop r k j (row ++ [x]) (by simpa using (by omega : (r.from k (row ++ [x])).length < row.length + 1 + k))
      exact this
theorem row_stop (r : Ru) {m M : Nat} (h : m ≤ M) (hs : (r.row m).length < m) : r.row M = r.row m := by
  have hf : r.first.length ≤ m := by
    by_cases z : r.first.length ≤ m
    · exact z
    · rw [row_first r (by omega), List.length_take] at hs
      omega
  have e1 : r.first.take m = r.first := List.take_of_length_le hf
  have e2 : r.first.take M = r.first := List.take_of_length_le (by omega)
  unfold Ru.row at hs ⊢
  rw [e1] at hs ⊢
  rw [e2, show M - r.first.length = (m - r.first.length) + (M - m) by omega]
  exact from_stop r _ _ _ (by omega)
/-- each number behind the first ones is told by the rule -/
theorem from_next (r : Ru) : ∀ (k : Nat) (row : List Int) (i : Nat), row.length ≤ i → i < (r.from k row).length → r.next ((r.from k row).take i) = (r.from k row)[i]?
  | 0, row, i, h1, h2 => by simp [Ru.from] at h2; omega
  | k + 1, row, i, h1, h2 => by
    simp only [Ru.from] at h2 ⊢
    cases q : r.next row with
    | none => rw [q] at h2; simp at h2; omega
    | some x =>
      rw [q] at h2
      show r.next ((r.from k (row ++ [x])).take i) = (r.from k (row ++ [x]))[i]?
      have pre := from_pre r k (row ++ [x])
      by_cases hi : i = row.length
      · subst hi
        have e : (r.from k (row ++ [x])).take row.length = row := by
          have h2 : ((r.from k (row ++ [x])).take (row ++ [x]).length).take row.length = (row ++ [x]).take row.length := by rw [pre]
          rw [List.take_take, Nat.min_eq_left (by simp)] at h2
          rw [h2]; simp
        have e2 : (r.from k (row ++ [x]))[row.length]? = some x := by
          have : ((r.from k (row ++ [x])).take (row ++ [x]).length)[row.length]? = (row ++ [x])[row.length]? := by rw [pre]
          rw [List.getElem?_take] at this
          simpa using this
        rw [e, e2, q]
      · exact from_next r k (row ++ [x]) i (by simp; omega) h2
theorem row_next (r : Ru) {m i : Nat} (h1 : r.first.length ≤ i) (h2 : i < (r.row m).length) : r.next ((r.row m).take i) = (r.row m)[i]? := by
  unfold Ru.row at h2 ⊢
  refine from_next r _ _ i ?_ h2
  rw [List.length_take]
  omega
/-- a row that ends does so as the rule tells nothing -/
theorem from_end (r : Ru) : ∀ (k : Nat) (row : List Int), (r.from k row).length < row.length + k → r.next (r.from k row) = none
  | 0, row, h => by simp [Ru.from] at h
  | k + 1, row, h => by
    simp only [Ru.from] at h ⊢
    cases q : r.next row with
    | none => exact q
    | some x =>
      simp only [q] at h
      exact from_end r k (row ++ [x]) (by simpa using (by omega : (r.from k (row ++ [x])).length < row.length + 1 + k))
theorem row_end (r : Ru) {m : Nat} (h : (r.row m).length < m) : r.next (r.row m) = none := by
  have hf : r.first.length ≤ m := by
    by_cases z : r.first.length ≤ m
    · exact z
    · rw [row_first r (by omega), List.length_take] at h
      omega
  unfold Ru.row at h ⊢
  rw [List.take_of_length_le hf] at h ⊢
  exact from_end r _ _ (by omega)
/-- one place more -/
theorem row_succ (r : Ru) {m : Nat} (hf : r.first.length ≤ m) (hl : (r.row m).length = m) : r.row (m + 1) = match r.next (r.row m) with
  | none => r.row m
  | some x => r.row m ++ [x] := by
  have e := row_take r (show m ≤ m + 1 by omega)
  have l1 := row_len r (m + 1)
  cases q : r.next (r.row m) with
  | none =>
    show r.row (m + 1) = r.row m
    by_cases hh : (r.row (m + 1)).length = m + 1
    · have := row_next r (m := m + 1) (i := m) hf (by omega)
      rw [← e, q, List.getElem?_eq_getElem (by omega)] at this
      cases this
    · rw [e, List.take_of_length_le (by omega)]
  | some x =>
    show r.row (m + 1) = r.row m ++ [x]
    by_cases hh : (r.row (m + 1)).length = m + 1
    · have := row_next r (m := m + 1) (i := m) hf (by omega)
      rw [← e, q] at this
      have t := List.take_append_drop m (r.row (m + 1))
      rw [← e, List.drop_eq_getElem_cons (by omega), List.drop_of_length_le (by omega)] at t
      rw [List.getElem?_eq_getElem (by omega)] at this
      rw [← t]
      cases this
      rfl
    · have z := row_end r (m := m + 1) (by omega)
      have e2 : r.row (m + 1) = r.row m := by rw [e, List.take_of_length_le (by omega)]
      rw [e2, q] at z
      cases z
end DL

/-! W6: numbers of rows, sums. -/
namespace DL
open PySem L2
local macro_rules | `(tactic| walk_at "wp") => `(tactic| try simp (disch := first | assumption | omega) only [↓DL.H_ok, ↓DL.H_bind, ↓DL.H_opt, ↓DL.optK_some, ↓DL.optK_ite, ↓DL.condK_true, ↓DL.condK_false, ↓DL.condK_dec, ↓DL.condK_not, ↓DL.varK_fro, ↓DL.varK_own, ↓DL.callR_ok, ↓DL.callR_exc, ↓DL.e_var, ↓DL.e_glob, ↓DL.e_int, ↓DL.e_bl, ↓DL.e_str, ↓DL.e_non, ↓DL.e_bin, ↓DL.e_neg, ↓DL.H_asBl, ↓DL.e_not, ↓DL.e_and, ↓DL.e_or, ↓DL.e_and1, ↓DL.e_or1, ↓DL.H_if, ↓DL.e_and2, ↓DL.e_or2, ↓DL.e_cmp, ↓DL.e_chain, ↓DL.e_isN, ↓DL.e_isB, ↓DL.e_ife, ↓DL.H_ite, ↓DL.e_tup, ↓DL.e_lst, ↓DL.e_dic0, ↓DL.e_fz0, ↓DL.e_fz, ↓DL.e_es0, ↓DL.e_es, ↓DL.e_ix, ↓DL.e_slice, ↓DL.e_o0, ↓DL.e_o, ↓DL.e_bi, ↓DL.e_isi, ↓DL.e_meth, ↓DL.e_call, ↓DL.e_revs, ↓DL.e_orT, ↓DL.e_setf, ↓DL.HO_out, ↓DL.x_nil, ↓DL.x_cons, ↓DL.HO_nx, ↓DL.HO_if, ↓DL.HO_ite, ↓DL.x_asg, ↓DL.x_expr, ↓DL.x_ret, ↓DL.x_ite, ↓DL.x_pass, ↓DL.x_brk, ↓DL.x_raise, ↓DL.x_par, ↓DL.x_asgT, ↓DL.x_append', ↓DL.x_extend', ↓DL.x_setix', ↓DL.s_seq, ↓DL.s_rng1, ↓DL.s_rng2, ↓DL.s_enum, ↓DL.s_zip, ↓DL.c_none, ↓DL.c_some, DL.seqL_lst, DL.seqL_tup, DL.enumL_lst, DL.zipL_lst, DL.zipL_tup, DL.rngD_ok, DL.len_rangeI, DL.stK_mk, DL.put_fro, DL.put_fre, DL.put_bor, DL.fz_fro, DL.fz_fre, DL.fz_bor, DL.set_mk, DL.wipe_nil, DL.wipe_cons, DL.bindT_nm, DL.bindT_tp, DL.frz_mk, DL.frzC_own, DL.frzC_fro, DL.fzs_nil, DL.fzs_cons, DL.add_int, DL.add_lst, DL.add_tup, DL.sub_int, DL.mul_int, DL.mul_lst, DL.mul_tup, DL.fdiv_int, DL.md_int, DL.lt_int, DL.le_int, DL.gt_int, DL.ge_int, DL.eq_any, DL.ne_any, DL.isin_any, DL.notin_any, DL.blOf_bl, DL.intOf_int, DL.len_lst, DL.len_tup, DL.len_scr, DL.ix_lst, DL.ix_tup, DL.ix_scr, DL.ix_dic, DL.eq_int, DL.eq_lints, DL.eq_lints_nil, DL.scr_eq_nil, DL.imm_int, DL.imm_bl, DL.imm_non, DL.imm_str, DL.imm_lst, DL.imm_tup, DL.imms_nil, DL.imms_cons, DL.imms_ints, DL.own_fro, DL.own_fre, DL.own_bor, DL.ownB_own, DL.ownB_fro, DL.clOf_fro, DL.clOf_fre, DL.clOf_bor, DL.isNon_non, DL.isNon_int, DL.isNon_tup, DL.isNon_lst, DL.isNon_str, DL.slice_lst, DL.slice_tup, DL.list_lst, DL.list_tup, DL.tuple_lst, DL.tuple_tup, DL.sum_lst, DL.sum_tup, DL.all_lst, DL.max_int, DL.min_int, DL.abs_int, DL.int_bl, DL.int_int, DL.intsOf_map, DL.blsOf_map, DL.truD_lst, DL.setD_len, DL.setD_srt, DL.sorted_lst, DL.sorted_dic, DL.get1_dic, DL.get2_dic, DL.count_lst, DL.recv_get, DL.recv_count, DL.recv_index, DL.keyOf_int, DL.keyOf_str, DL.appK_own, DL.extK_own, DL.setK_dic, DL.setK_lst, DL.isOwnL_own, DL.isOwn_own, DL.isi_ii, DL.isi_ib, DL.isi_tt, DL.isi_ss, DL.isi_ll, DL.isi_bi, DL.isi_bb, DL.isi_lt, DL.isi_tl, DL.at0, DL.at1, DL.at2, DL.last1, DL.last2, DL.last3, DL.at_ints, DL.encO_some, DL.encO_none, CRes.ok.injEq, D.bl.injEq, D.int.injEq, D.lst.injEq, D.tup.injEq, D.str.injEq, DL.ints_inj, Prod.mk.injEq, if_true, if_false, Bool.false_eq_true, Bool.true_eq_false, Bool.and_true, Bool.true_and, Bool.and_self, Bool.and_false, Bool.false_and, List.length_cons, List.length_nil, List.length_map, Nat.reduceAdd, Nat.reduceLeDiff, true_and, and_true, List.zip_cons_cons, List.zip_nil_right, List.foldl_cons, List.foldl_nil, bne_self_eq_false, Bool.bne_false, Bool.bne_true, Bool.not_false, Bool.not_true, Option.map_none, List.cons_append, List.nil_append, Nat.reduceLT, or_self, and_self, or_true, true_or, or_false, false_or, and_false, false_and, Int.cast_ofNat_Int, Int.reduceLT, Int.reduceLE, Int.reduceEq, Int.reduceNeg, Int.reduceAdd, Int.reduceSub, Int.reduceToNat, true_imp_iff, false_imp_iff, not_true_eq_false, not_false_eq_true, Bool.not_eq_true, Bool.not_eq_false, List.getElem?_cons_succ, List.getElem?_cons_zero, List.set_cons_zero, List.set_cons_succ, List.map_cons, List.map_nil, List.drop_zero, List.take_zero, DL.omap, DL.obind, eq_self, decide_true, decide_false, decide_eq_true_eq, decide_eq_false_iff_not, imp_false, Classical.not_not, reduceCtorEq, implies_true, DL.sq_at_at, DL.sq_at_of, DL.sq_at_back, DL.sq_at_rest, DL.sq_of_at, DL.sq_of_of, DL.sq_of_back, DL.sq_of_rest, DL.sq_back_at, DL.sq_back_of, DL.sq_back_back, DL.sq_back_rest, DL.sq_rest_at, DL.sq_rest_of, DL.sq_rest_back, DL.sq_rest_rest, DL.imm_ru, DL.imm_enc, DL.imm_encO, DL.run_pk, DL.run_look_rule, DL.run_look_many, DL.run_row, DL.run_numbers, DL.cut_takeI, DL.cut_dropI, DL.cut_bothI])
local macro_rules | `(tactic| walk_at "ws") => `(tactic| try simp (disch := first | assumption | omega) only [↓DL.H_ok, ↓DL.H_bind, ↓DL.H_opt, ↓DL.optK_some, ↓DL.optK_ite, ↓DL.condK_true, ↓DL.condK_false, ↓DL.condK_dec, ↓DL.condK_not, ↓DL.varK_fro, ↓DL.varK_own, ↓DL.callR_ok, ↓DL.callR_exc, ↓DL.e_var, ↓DL.e_glob, ↓DL.e_int, ↓DL.e_bl, ↓DL.e_str, ↓DL.e_non, ↓DL.e_bin, ↓DL.e_neg, ↓DL.H_asBl, ↓DL.e_not, ↓DL.e_and, ↓DL.e_or, ↓DL.e_and1, ↓DL.e_or1, ↓DL.H_if, ↓DL.e_and2, ↓DL.e_or2, ↓DL.e_cmp, ↓DL.e_chain, ↓DL.e_isN, ↓DL.e_isB, ↓DL.e_ife, ↓DL.H_ite, ↓DL.e_tup, ↓DL.e_lst, ↓DL.e_dic0, ↓DL.e_fz0, ↓DL.e_fz, ↓DL.e_es0, ↓DL.e_es, ↓DL.e_ix, ↓DL.e_slice, ↓DL.e_o0, ↓DL.e_o, ↓DL.e_bi, ↓DL.e_isi, ↓DL.e_meth, ↓DL.e_call, ↓DL.e_revs, ↓DL.e_orT, ↓DL.e_setf, ↓DL.HO_out, ↓DL.x_nil, ↓DL.x_cons, ↓DL.HO_nx, ↓DL.HO_if, ↓DL.HO_ite, ↓DL.x_asg, ↓DL.x_expr, ↓DL.x_ret, ↓DL.x_ite, ↓DL.x_pass, ↓DL.x_brk, ↓DL.x_raise, ↓DL.x_par, ↓DL.x_asgT, ↓DL.x_append', ↓DL.x_extend', ↓DL.x_setix', ↓DL.s_seq, ↓DL.s_rng1, ↓DL.s_rng2, ↓DL.s_enum, ↓DL.s_zip, ↓DL.c_none, ↓DL.c_some, DL.seqL_lst, DL.seqL_tup, DL.enumL_lst, DL.zipL_lst, DL.zipL_tup, DL.rngD_ok, DL.len_rangeI, DL.stK_mk, DL.put_fro, DL.put_fre, DL.put_bor, DL.fz_fro, DL.fz_fre, DL.fz_bor, DL.set_mk, DL.wipe_nil, DL.wipe_cons, DL.bindT_nm, DL.bindT_tp, DL.frz_mk, DL.frzC_own, DL.frzC_fro, DL.fzs_nil, DL.fzs_cons, DL.add_int, DL.add_lst, DL.add_tup, DL.sub_int, DL.mul_int, DL.mul_lst, DL.mul_tup, DL.fdiv_int, DL.md_int, DL.lt_int, DL.le_int, DL.gt_int, DL.ge_int, DL.eq_any, DL.ne_any, DL.isin_any, DL.notin_any, DL.blOf_bl, DL.intOf_int, DL.len_lst, DL.len_tup, DL.len_scr, DL.ix_lst, DL.ix_tup, DL.ix_scr, DL.ix_dic, DL.eq_int, DL.eq_lints, DL.eq_lints_nil, DL.scr_eq_nil, DL.imm_int, DL.imm_bl, DL.imm_non, DL.imm_str, DL.imm_lst, DL.imm_tup, DL.imms_nil, DL.imms_cons, DL.imms_ints, DL.own_fro, DL.own_fre, DL.own_bor, DL.ownB_own, DL.ownB_fro, DL.clOf_fro, DL.clOf_fre, DL.clOf_bor, DL.isNon_non, DL.isNon_int, DL.isNon_tup, DL.isNon_lst, DL.isNon_str, DL.slice_lst, DL.slice_tup, DL.list_lst, DL.list_tup, DL.tuple_lst, DL.tuple_tup, DL.sum_lst, DL.sum_tup, DL.all_lst, DL.max_int, DL.min_int, DL.abs_int, DL.int_bl, DL.int_int, DL.intsOf_map, DL.blsOf_map, DL.truD_lst, DL.setD_len, DL.setD_srt, DL.sorted_lst, DL.sorted_dic, DL.get1_dic, DL.get2_dic, DL.count_lst, DL.recv_get, DL.recv_count, DL.recv_index, DL.keyOf_int, DL.keyOf_str, DL.appK_own, DL.extK_own, DL.setK_dic, DL.setK_lst, DL.isOwnL_own, DL.isOwn_own, DL.isi_ii, DL.isi_ib, DL.isi_tt, DL.isi_ss, DL.isi_ll, DL.isi_bi, DL.isi_bb, DL.isi_lt, DL.isi_tl, DL.at0, DL.at1, DL.at2, DL.last1, DL.last2, DL.last3, DL.at_ints, DL.encO_some, DL.encO_none, CRes.ok.injEq, D.bl.injEq, D.int.injEq, D.lst.injEq, D.tup.injEq, D.str.injEq, DL.ints_inj, Prod.mk.injEq, if_true, if_false, Bool.false_eq_true, Bool.true_eq_false, Bool.and_true, Bool.true_and, Bool.and_self, Bool.and_false, Bool.false_and, List.length_cons, List.length_nil, List.length_map, Nat.reduceAdd, Nat.reduceLeDiff, true_and, and_true, List.zip_cons_cons, List.zip_nil_right, List.foldl_cons, List.foldl_nil, bne_self_eq_false, Bool.bne_false, Bool.bne_true, Bool.not_false, Bool.not_true, Option.map_none, List.cons_append, List.nil_append, Nat.reduceLT, or_self, and_self, or_true, true_or, or_false, false_or, and_false, false_and, Int.cast_ofNat_Int, Int.reduceLT, Int.reduceLE, Int.reduceEq, Int.reduceNeg, Int.reduceAdd, Int.reduceSub, Int.reduceToNat, true_imp_iff, false_imp_iff, not_true_eq_false, not_false_eq_true, Bool.not_eq_true, Bool.not_eq_false, List.getElem?_cons_succ, List.getElem?_cons_zero, List.set_cons_zero, List.set_cons_succ, List.map_cons, List.map_nil, List.drop_zero, List.take_zero, DL.omap, DL.obind, eq_self, decide_true, decide_false, decide_eq_true_eq, decide_eq_false_iff_not, imp_false, Classical.not_not, reduceCtorEq, implies_true, DL.sq_at_at, DL.sq_at_of, DL.sq_at_back, DL.sq_at_rest, DL.sq_of_at, DL.sq_of_of, DL.sq_of_back, DL.sq_of_rest, DL.sq_back_at, DL.sq_back_of, DL.sq_back_back, DL.sq_back_rest, DL.sq_rest_at, DL.sq_rest_of, DL.sq_rest_back, DL.sq_rest_rest, DL.imm_ru, DL.imm_enc, DL.imm_encO, DL.run_pk, DL.run_look_rule, DL.run_look_many, DL.run_row, DL.run_numbers, DL.cut_takeI, DL.cut_dropI, DL.cut_bothI, *])
local macro_rules | `(tactic| walk_at "wi") => `(tactic| try simp (disch := first | assumption | omega) only [↓DL.H_ok, ↓DL.H_bind, ↓DL.H_opt, ↓DL.optK_some, ↓DL.optK_ite, ↓DL.condK_true, ↓DL.condK_false, ↓DL.condK_dec, ↓DL.condK_not, ↓DL.varK_fro, ↓DL.varK_own, ↓DL.callR_ok, ↓DL.callR_exc, ↓DL.e_var, ↓DL.e_glob, ↓DL.e_int, ↓DL.e_bl, ↓DL.e_str, ↓DL.e_non, ↓DL.e_bin, ↓DL.e_neg, ↓DL.H_asBl, ↓DL.e_not, ↓DL.e_and, ↓DL.e_or, ↓DL.e_and1, ↓DL.e_or1, ↓DL.H_if, ↓DL.e_and2, ↓DL.e_or2, ↓DL.e_cmp, ↓DL.e_chain, ↓DL.e_isN, ↓DL.e_isB, ↓DL.H_ite, ↓DL.e_tup, ↓DL.e_lst, ↓DL.e_dic0, ↓DL.e_fz0, ↓DL.e_fz, ↓DL.e_es0, ↓DL.e_es, ↓DL.e_ix, ↓DL.e_slice, ↓DL.e_o0, ↓DL.e_o, ↓DL.e_bi, ↓DL.e_isi, ↓DL.e_meth, ↓DL.e_call, ↓DL.e_revs, ↓DL.e_orT, ↓DL.e_setf, ↓DL.HO_out, ↓DL.x_nil, ↓DL.x_cons, ↓DL.HO_nx, ↓DL.HO_if, ↓DL.HO_ite, ↓DL.x_asg, ↓DL.x_expr, ↓DL.x_ret, ↓DL.x_pass, ↓DL.x_brk, ↓DL.x_raise, ↓DL.x_par, ↓DL.x_asgT, ↓DL.x_append', ↓DL.x_extend', ↓DL.x_setix', ↓DL.s_seq, ↓DL.s_rng1, ↓DL.s_rng2, ↓DL.s_enum, ↓DL.s_zip, ↓DL.c_none, ↓DL.c_some, DL.seqL_lst, DL.seqL_tup, DL.enumL_lst, DL.zipL_lst, DL.zipL_tup, DL.rngD_ok, DL.len_rangeI, DL.stK_mk, DL.put_fro, DL.put_fre, DL.put_bor, DL.fz_fro, DL.fz_fre, DL.fz_bor, DL.set_mk, DL.wipe_nil, DL.wipe_cons, DL.bindT_nm, DL.bindT_tp, DL.frz_mk, DL.frzC_own, DL.frzC_fro, DL.fzs_nil, DL.fzs_cons, DL.add_int, DL.add_lst, DL.add_tup, DL.sub_int, DL.mul_int, DL.mul_lst, DL.mul_tup, DL.fdiv_int, DL.md_int, DL.lt_int, DL.le_int, DL.gt_int, DL.ge_int, DL.eq_any, DL.ne_any, DL.isin_any, DL.notin_any, DL.blOf_bl, DL.intOf_int, DL.len_lst, DL.len_tup, DL.len_scr, DL.ix_lst, DL.ix_tup, DL.ix_scr, DL.ix_dic, DL.eq_int, DL.eq_lints, DL.eq_lints_nil, DL.scr_eq_nil, DL.imm_int, DL.imm_bl, DL.imm_non, DL.imm_str, DL.imm_lst, DL.imm_tup, DL.imms_nil, DL.imms_cons, DL.imms_ints, DL.own_fro, DL.own_fre, DL.own_bor, DL.ownB_own, DL.ownB_fro, DL.clOf_fro, DL.clOf_fre, DL.clOf_bor, DL.isNon_non, DL.isNon_int, DL.isNon_tup, DL.isNon_lst, DL.isNon_str, DL.slice_lst, DL.slice_tup, DL.list_lst, DL.list_tup, DL.tuple_lst, DL.tuple_tup, DL.sum_lst, DL.sum_tup, DL.all_lst, DL.max_int, DL.min_int, DL.abs_int, DL.int_bl, DL.int_int, DL.intsOf_map, DL.blsOf_map, DL.truD_lst, DL.setD_len, DL.setD_srt, DL.sorted_lst, DL.sorted_dic, DL.get1_dic, DL.get2_dic, DL.count_lst, DL.recv_get, DL.recv_count, DL.recv_index, DL.keyOf_int, DL.keyOf_str, DL.appK_own, DL.extK_own, DL.setK_dic, DL.setK_lst, DL.isOwnL_own, DL.isOwn_own, DL.isi_ii, DL.isi_ib, DL.isi_tt, DL.isi_ss, DL.isi_ll, DL.isi_bi, DL.isi_bb, DL.isi_lt, DL.isi_tl, DL.at0, DL.at1, DL.at2, DL.last1, DL.last2, DL.last3, DL.at_ints, DL.encO_some, DL.encO_none, CRes.ok.injEq, D.bl.injEq, D.int.injEq, D.lst.injEq, D.tup.injEq, D.str.injEq, DL.ints_inj, Prod.mk.injEq, if_true, if_false, Bool.false_eq_true, Bool.true_eq_false, Bool.and_true, Bool.true_and, Bool.and_self, Bool.and_false, Bool.false_and, List.length_cons, List.length_nil, List.length_map, Nat.reduceAdd, Nat.reduceLeDiff, true_and, and_true, List.zip_cons_cons, List.zip_nil_right, List.foldl_cons, List.foldl_nil, bne_self_eq_false, Bool.bne_false, Bool.bne_true, Bool.not_false, Bool.not_true, Option.map_none, List.cons_append, List.nil_append, Nat.reduceLT, or_self, and_self, or_true, true_or, or_false, false_or, and_false, false_and, Int.cast_ofNat_Int, Int.reduceLT, Int.reduceLE, Int.reduceEq, Int.reduceNeg, Int.reduceAdd, Int.reduceSub, Int.reduceToNat, true_imp_iff, false_imp_iff, not_true_eq_false, not_false_eq_true, Bool.not_eq_true, Bool.not_eq_false, List.getElem?_cons_succ, List.getElem?_cons_zero, List.set_cons_zero, List.set_cons_succ, List.map_cons, List.map_nil, List.drop_zero, List.take_zero, DL.omap, DL.obind, eq_self, decide_true, decide_false, decide_eq_true_eq, decide_eq_false_iff_not, imp_false, Classical.not_not, reduceCtorEq, implies_true, DL.sq_at_at, DL.sq_at_of, DL.sq_at_back, DL.sq_at_rest, DL.sq_of_at, DL.sq_of_of, DL.sq_of_back, DL.sq_of_rest, DL.sq_back_at, DL.sq_back_of, DL.sq_back_back, DL.sq_back_rest, DL.sq_rest_at, DL.sq_rest_of, DL.sq_rest_back, DL.sq_rest_rest, DL.imm_ru, DL.imm_enc, DL.imm_encO, DL.run_pk, DL.run_look_rule, DL.run_look_many, DL.run_row, DL.run_numbers, DL.cut_takeI, DL.cut_dropI, DL.cut_bothI])
local macro_rules | `(tactic| walk_at "wj") => `(tactic| try simp (disch := first | assumption | omega) only [↓DL.H_ok, ↓DL.H_bind, ↓DL.H_opt, ↓DL.optK_some, ↓DL.optK_ite, ↓DL.condK_true, ↓DL.condK_false, ↓DL.condK_dec, ↓DL.condK_not, ↓DL.varK_fro, ↓DL.varK_own, ↓DL.callR_ok, ↓DL.callR_exc, ↓DL.e_var, ↓DL.e_glob, ↓DL.e_int, ↓DL.e_bl, ↓DL.e_str, ↓DL.e_non, ↓DL.e_bin, ↓DL.e_neg, ↓DL.H_asBl, ↓DL.e_not, ↓DL.e_and, ↓DL.e_or, ↓DL.e_and1, ↓DL.e_or1, ↓DL.H_if, ↓DL.e_and2, ↓DL.e_or2, ↓DL.e_cmp, ↓DL.e_chain, ↓DL.e_isN, ↓DL.e_isB, ↓DL.H_ite, ↓DL.e_tup, ↓DL.e_lst, ↓DL.e_dic0, ↓DL.e_fz0, ↓DL.e_fz, ↓DL.e_es0, ↓DL.e_es, ↓DL.e_ix, ↓DL.e_slice, ↓DL.e_o0, ↓DL.e_o, ↓DL.e_bi, ↓DL.e_isi, ↓DL.e_meth, ↓DL.e_call, ↓DL.e_revs, ↓DL.e_orT, ↓DL.e_setf, ↓DL.HO_out, ↓DL.x_nil, ↓DL.x_cons, ↓DL.HO_nx, ↓DL.HO_if, ↓DL.HO_ite, ↓DL.x_asg, ↓DL.x_expr, ↓DL.x_ret, ↓DL.x_pass, ↓DL.x_brk, ↓DL.x_raise, ↓DL.x_par, ↓DL.x_asgT, ↓DL.x_append', ↓DL.x_extend', ↓DL.x_setix', ↓DL.s_seq, ↓DL.s_rng1, ↓DL.s_rng2, ↓DL.s_enum, ↓DL.s_zip, ↓DL.c_none, ↓DL.c_some, DL.seqL_lst, DL.seqL_tup, DL.enumL_lst, DL.zipL_lst, DL.zipL_tup, DL.rngD_ok, DL.len_rangeI, DL.stK_mk, DL.put_fro, DL.put_fre, DL.put_bor, DL.fz_fro, DL.fz_fre, DL.fz_bor, DL.set_mk, DL.wipe_nil, DL.wipe_cons, DL.bindT_nm, DL.bindT_tp, DL.frz_mk, DL.frzC_own, DL.frzC_fro, DL.fzs_nil, DL.fzs_cons, DL.add_int, DL.add_lst, DL.add_tup, DL.sub_int, DL.mul_int, DL.mul_lst, DL.mul_tup, DL.fdiv_int, DL.md_int, DL.lt_int, DL.le_int, DL.gt_int, DL.ge_int, DL.eq_any, DL.ne_any, DL.isin_any, DL.notin_any, DL.blOf_bl, DL.intOf_int, DL.len_lst, DL.len_tup, DL.len_scr, DL.ix_lst, DL.ix_tup, DL.ix_scr, DL.ix_dic, DL.eq_int, DL.eq_lints, DL.eq_lints_nil, DL.scr_eq_nil, DL.imm_int, DL.imm_bl, DL.imm_non, DL.imm_str, DL.imm_lst, DL.imm_tup, DL.imms_nil, DL.imms_cons, DL.imms_ints, DL.own_fro, DL.own_fre, DL.own_bor, DL.ownB_own, DL.ownB_fro, DL.clOf_fro, DL.clOf_fre, DL.clOf_bor, DL.isNon_non, DL.isNon_int, DL.isNon_tup, DL.isNon_lst, DL.isNon_str, DL.slice_lst, DL.slice_tup, DL.list_lst, DL.list_tup, DL.tuple_lst, DL.tuple_tup, DL.sum_lst, DL.sum_tup, DL.all_lst, DL.max_int, DL.min_int, DL.abs_int, DL.int_bl, DL.int_int, DL.intsOf_map, DL.blsOf_map, DL.truD_lst, DL.setD_len, DL.setD_srt, DL.sorted_lst, DL.sorted_dic, DL.get1_dic, DL.get2_dic, DL.count_lst, DL.recv_get, DL.recv_count, DL.recv_index, DL.keyOf_int, DL.keyOf_str, DL.appK_own, DL.extK_own, DL.setK_dic, DL.setK_lst, DL.isOwnL_own, DL.isOwn_own, DL.isi_ii, DL.isi_ib, DL.isi_tt, DL.isi_ss, DL.isi_ll, DL.isi_bi, DL.isi_bb, DL.isi_lt, DL.isi_tl, DL.at0, DL.at1, DL.at2, DL.last1, DL.last2, DL.last3, DL.at_ints, DL.encO_some, DL.encO_none, CRes.ok.injEq, D.bl.injEq, D.int.injEq, D.lst.injEq, D.tup.injEq, D.str.injEq, DL.ints_inj, Prod.mk.injEq, if_true, if_false, Bool.false_eq_true, Bool.true_eq_false, Bool.and_true, Bool.true_and, Bool.and_self, Bool.and_false, Bool.false_and, List.length_cons, List.length_nil, List.length_map, Nat.reduceAdd, Nat.reduceLeDiff, true_and, and_true, List.zip_cons_cons, List.zip_nil_right, List.foldl_cons, List.foldl_nil, bne_self_eq_false, Bool.bne_false, Bool.bne_true, Bool.not_false, Bool.not_true, Option.map_none, List.cons_append, List.nil_append, Nat.reduceLT, or_self, and_self, or_true, true_or, or_false, false_or, and_false, false_and, Int.cast_ofNat_Int, Int.reduceLT, Int.reduceLE, Int.reduceEq, Int.reduceNeg, Int.reduceAdd, Int.reduceSub, Int.reduceToNat, true_imp_iff, false_imp_iff, not_true_eq_false, not_false_eq_true, Bool.not_eq_true, Bool.not_eq_false, List.getElem?_cons_succ, List.getElem?_cons_zero, List.set_cons_zero, List.set_cons_succ, List.map_cons, List.map_nil, List.drop_zero, List.take_zero, DL.omap, DL.obind, eq_self, decide_true, decide_false, decide_eq_true_eq, decide_eq_false_iff_not, imp_false, Classical.not_not, reduceCtorEq, implies_true, DL.sq_at_at, DL.sq_at_of, DL.sq_at_back, DL.sq_at_rest, DL.sq_of_at, DL.sq_of_of, DL.sq_of_back, DL.sq_of_rest, DL.sq_back_at, DL.sq_back_of, DL.sq_back_back, DL.sq_back_rest, DL.sq_rest_at, DL.sq_rest_of, DL.sq_rest_back, DL.sq_rest_rest, DL.imm_ru, DL.imm_enc, DL.imm_encO, DL.run_pk, DL.run_look_rule, DL.run_look_many, DL.run_row, DL.run_numbers, DL.cut_takeI, DL.cut_dropI, DL.cut_bothI, *])
theorem getD_take {row : List Int} {i k : Nat} (h : i < k) : (row.take k).getD i 0 = row.getD i 0 := by
  simp [List.getD, List.getElem?_take, h]
theorem row_full {r : Ru} {p M : Nat} (hM : p ≤ M) (hL : p ≤ (r.row M).length) : (r.row p).length = p := by
  rw [row_take r hM, List.length_take]; omega
theorem run_number_at {q : Nat} {r : Ru} {p : Int} {w : List WObj} (hr : r.Ok) (M : Nat) (hM : p ≤ M) (hp : 1 ≤ p) (hp2 : p ≤ 200) (hL : p ≤ (r.row M).length) (hq : 11 ≤ q) : run T q kf_p_number_at [r.enc, .int p] w = .ok (.int ((r.row M).getD (p - 1).toNat 0)) false w := by
  obtain ⟨n, rfl⟩ : ∃ n, q = n + 1 := ⟨q - 1, by omega⟩
  obtain ⟨p, rfl⟩ : ∃ k : Nat, p = k := ⟨p.toNat, by omega⟩
  have e := row_take r (show p ≤ M by omega)
  have hl := row_full (r := r) (p := p) (M := M) (by omega) (by omega)
  refine run_w T_p_number_at rfl [.fro r.enc, .fro (.int p), .un] rfl ?_
  unfold fd_p_number_at
  walk_at "wp"
  rw [Int.toNat_natCast]
  refine ⟨fun h => by omega, fun _ => ?_⟩
  rw [at_ints (by omega) (by omega)]
  walk_at "wp"
  rw [e, getD_take (by omega)]
theorem run_number_at_ended {q : Nat} {r : Ru} {p : Int} {w : List WObj} (hr : r.Ok) (hp : 1 ≤ p) (hp2 : p ≤ 200) (hL : (r.row p.toNat).length < p) (hq : 11 ≤ q) : run T q kf_p_number_at [r.enc, .int p] w = .exc 2 w := by
  obtain ⟨n, rfl⟩ : ∃ n, q = n + 1 := ⟨q - 1, by omega⟩
  refine run_w T_p_number_at rfl [.fro r.enc, .fro (.int p), .un] rfl ?_
  unfold fd_p_number_at
  walk_at "wp"
  exact fun z => absurd hL z
theorem run_end_of {q : Nat} {r : Ru} {m : Int} {w : List WObj} (hr : r.Ok) (hp : 1 ≤ m) (hp2 : m ≤ 200) (hq : 11 ≤ q) : run T q kf_p_end_of [r.enc, .int m] w = .ok (encO (if (r.row m.toNat).length < m then some (r.row m.toNat).length else none)) false w := by
  obtain ⟨n, rfl⟩ : ∃ n, q = n + 1 := ⟨q - 1, by omega⟩
  refine run_w T_p_end_of rfl [.fro r.enc, .fro (.int m), .un] rfl ?_
  unfold fd_p_end_of
  walk_at "wp"
  refine ⟨fun h => ?_, fun h => ?_⟩
  · rw [if_pos h]; rfl
  · rw [if_neg h]; rfl
/-- where the terms look at a place -/
theorem run_looks {q : Nat} {r : Ru} {p : Int} {w : List WObj} (hr : r.Ok) (M : Nat) (hM : p ≤ M) (hp : 1 ≤ p) (hp2 : p ≤ 200) (hL : p ≤ (r.row M).length) (hq : 12 ≤ q) :
    run T q kf_p_looks [r.enc, .int p] w = .ok (.lst (if p ≤ r.first.length then [] else r.terms.map fun t => encO (t.place ((r.row M).take (p - 1).toNat)))) true w := by
  obtain ⟨n, rfl⟩ : ∃ n, q = n + 1 := ⟨q - 1, by omega⟩
  refine run_w T_p_looks rfl [.fro r.enc, .fro (.int p), .un, .un] rfl ?_
  unfold fd_p_looks
  have hm := hr.all
  walk_at "wp"
  rw [run_number_at hr M hM hp hp2 hL (by omega)]
  simp only [Ru.enc]
  walk_at "wp"
  refine ⟨fun h => ?_, fun h => ?_⟩
  · rw [if_pos h]
  · rw [if_neg h]
    have e : run T n kf_p_row_of [D.tup [D.tup (List.map D.int r.first), D.int r.more, D.tup (List.map Tm.enc r.terms)], D.int (p - 1)] w = .ok (.lst (((r.row M).take (p - 1).toNat).map .int)) true w := by
      have := run_row (n := n) (w := w) hr (many := p - 1) (by omega) (by omega) (by omega)
      rw [row_take r (show (p - 1).toNat ≤ M by omega)] at this
      exact this
    rw [e]
    walk_at "wp"
    refine e_lcM r.terms Tm.enc (fun t => encO (t.place ((r.row M).take (p - 1).toNat))) ?_
    walk_at "wp"
    refine ⟨by omega, fun t ht => ?_⟩
    have := hr.dep t ht
    rw [run_pl (by omega)]
    walk_at "wp"
/-! sums -/
def totM (r : List Int) : List Int := (List.range r.length).map fun i => (r.take (i + 1)).sum
theorem totM_snoc (r : List Int) (x : Int) : totM (r ++ [x]) = totM r ++ [(r ++ [x]).sum] := by
  unfold totM
  rw [List.length_append, List.length_singleton, List.range_succ, List.map_append, List.map_singleton]
  congr 1
  · refine List.map_congr_left fun i hi => ?_
    have := List.mem_range.mp hi
    rw [List.take_append_of_le_length (by omega)]
  · rw [List.take_of_length_le (by simp)]
theorem totM_len (r : List Int) : (totM r).length = r.length := by simp [totM]
theorem totM_get (r : List Int) {i : Nat} (h : i < r.length) : (totM r).getD i 0 = (r.take (i + 1)).sum := by
  simp [totM, List.getD, h]
theorem totM_last (r : List Int) (h : r ≠ []) : (totM r).getLast? = some r.sum := by
  have hl : 0 < r.length := List.length_pos_iff.mpr h
  rw [List.getLast?_eq_getElem?, totM_len]
  have := totM_get r (i := r.length - 1) (by omega)
  rw [show r.length - 1 + 1 = r.length by omega, List.take_length] at this
  rw [List.getElem?_eq_getElem (by rw [totM_len]; omega)]
  rw [List.getD, List.getElem?_eq_getElem (by rw [totM_len]; omega)] at this
  exact congrArg some this
theorem take_snoc {α : Type} {l : List α} {i : Nat} {x : α} (h : l[i]? = some x) : l.take (i + 1) = l.take i ++ [x] := by
  rw [List.take_add_one, h]; rfl
theorem run_totals {q : Nat} {r : Ru} {many : Int} {w : List WObj} (hr : r.Ok) (h1 : 1 ≤ many) (h2 : many ≤ 200) (hq : 11 ≤ q) : run T q kf_p_totals [r.enc, .int many] w = .ok (.lst ((totM (r.row many.toNat)).map .int)) true w := by
  obtain ⟨n, rfl⟩ : ∃ n, q = n + 1 := ⟨q - 1, by omega⟩
  refine run_w T_p_totals rfl [.fro r.enc, .fro (.int many), .un, .un] rfl ?_
  unfold fd_p_totals
  have hl := row_len r many.toNat
  walk_at "wp"
  refine x_forT (r.row many.toNat) .int (fun s0 i s => ∃ c, s = (s0.set 2 (.own (.lst ((totM ((r.row many.toNat).take i)).map .int)))).set 3 c) ?_
  walk_at "wp"
  refine ⟨⟨.un, rfl⟩, ?_, ?_⟩
  · rintro i x s hx ⟨c, rfl⟩
    have hi : i < (r.row many.toNat).length := (List.getElem?_eq_some_iff.mp hx).1
    walk_at "wp"
    have ln : (totM ((r.row many.toNat).take i)).length = i := by rw [totM_len, List.length_take]; omega
    rw [take_snoc hx, totM_snoc]
    refine ⟨fun h => ?_, fun h => ?_⟩
    · refine ⟨by omega, .fro (.int x), ?_⟩
      rw [h] at ln
      subst ln
      simp [totM]
    · have hne : (r.row many.toNat).take i ≠ [] := fun z => h (by rw [z]; rfl)
      rw [at_last (totM_last _ hne)]
      walk_at "wp"
      refine ⟨by omega, .fro (.int x), ?_⟩
      rw [List.sum_append, Int.add_comm]
      simp
  · rintro s ⟨c, rfl⟩
    rw [List.take_length]
    walk_at "wp"
theorem run_sum_between {q : Nat} {r : Ru} {a b : Int} {w : List WObj} (hr : r.Ok) (M : Nat) (hM : b ≤ M) (ha : 1 ≤ a) (hab : a ≤ b) (hb : b ≤ 200) (hL : b ≤ (r.row M).length) (hq : 12 ≤ q) : run T q kf_p_sum_between [r.enc, .int a, .int b] w = .ok (.int (((r.row M).take b.toNat).drop (a - 1).toNat).sum) false w := by
  obtain ⟨n, rfl⟩ : ∃ n, q = n + 1 := ⟨q - 1, by omega⟩
  refine run_w T_p_sum_between rfl [.fro r.enc, .fro (.int a), .fro (.int b)] rfl ?_
  unfold fd_p_sum_between
  walk_at "wp"
  rw [show (if b > a then b else a) = b by split <;> omega]
  rw [run_number_at hr M hM (by omega) hb hL (by omega)]
  walk_at "wp"
  refine ⟨fun h => by omega, fun _ => ?_⟩
  rw [← List.map_drop]
  walk_at "wp"
  rw [row_take r (show b.toNat ≤ M by omega)]
theorem gcd_step {a b : Int} (ha : 0 ≤ a) (hb : 0 < b) : Int.gcd b (a % b) = Int.gcd a b := by
  obtain ⟨x, rfl⟩ := Int.eq_ofNat_of_zero_le ha
  obtain ⟨y, rfl⟩ := Int.eq_ofNat_of_zero_le (Int.le_of_lt hb)
  have e : (x : Int) % (y : Int) = ((x % y : Nat) : Int) := by norm_cast
  rw [e]
  show Nat.gcd y (x % y) = Nat.gcd x y
  rw [Nat.gcd_comm x y, Nat.gcd_rec y x, Nat.gcd_comm]
theorem run_lowest {q : Nat} {u d : Int} {w : List WObj} (hd : 1 ≤ d) (hd2 : d ≤ 1000) (hq : 1 ≤ q) : run T q kf_p_lowest [.int u, .int d] w = .ok (.tup [.int (u / (Int.gcd u d)), .int (d / (Int.gcd u d))]) false w := by
  obtain ⟨n, rfl⟩ : ∃ n, q = n + 1 := ⟨q - 1, by omega⟩
  refine run_w T_p_lowest rfl [.fro (.int u), .fro (.int d), .un, .un] rfl ?_
  unfold fd_p_lowest
  walk_at "wp"
  have hg : 0 < Int.gcd u d := Int.gcd_pos_of_ne_zero_right _ (by omega)
  have hgd : (Int.gcd u d : Int) ∣ d := Int.gcd_dvd_right ..
  have hgl : (Int.gcd u d : Int) ≤ d := Int.le_of_dvd (by omega) hgd
  refine x_whileT d.toNat (fun s0 m s => ∃ a b : Int, s = (s0.set 2 (.fro (.int a))).set 3 (.fro (.int b)) ∧ 0 ≤ a ∧ 0 ≤ b ∧ m = b.toNat ∧ Int.gcd a b = Int.gcd u d) (by omega) ⟨if u < 0 then -u else u, d, rfl, by split <;> omega, by omega, rfl, ?_⟩ ?_
  · split
    · rw [Int.neg_gcd]
    · rfl
  · rintro m s ⟨a, b, rfl, h0, h1, rfl, h2⟩
    walk_at "wp"
    refine ⟨fun hb => ?_, fun hb => ?_⟩
    · subst hb
      have ea : a = (Int.gcd u d : Int) := by
        rw [← h2, Int.gcd_zero_right]
        omega
      rw [ea]
      exact ⟨⟨by omega, by omega⟩, ⟨by omega, by omega⟩, rfl⟩
    · have hbp : 0 < b := by omega
      have := Int.emod_nonneg a (show b ≠ 0 by omega)
      have := Int.emod_lt_of_pos a hbp
      refine ⟨hbp, (a % b).toNat, by omega, b, a % b, rfl, by omega, by omega, rfl, ?_⟩
      rw [gcd_step h0 hbp, h2]
theorem run_ratio {q : Nat} {r : Ru} {p : Int} {w : List WObj} (hr : r.Ok) (M : Nat) (hM : p ≤ M) (hp : 1 ≤ p) (hp2 : p ≤ 200) (hL : p ≤ (r.row M).length) (hq : 12 ≤ q) : run T q kf_p_ratio [r.enc, .int p] w =
    .ok (.tup [.int ((r.row M).getD (p - 1).toNat 0 / (Int.gcd ((r.row M).getD (p - 1).toNat 0) p)), .int (p / (Int.gcd ((r.row M).getD (p - 1).toNat 0) p))]) false w := by
  obtain ⟨n, rfl⟩ : ∃ n, q = n + 1 := ⟨q - 1, by omega⟩
  refine run_w T_p_ratio rfl [.fro r.enc, .fro (.int p)] rfl ?_
  unfold fd_p_ratio
  walk_at "wp"
  rw [run_number_at hr M hM hp hp2 hL (by omega)]
  walk_at "wp"
  rw [run_lowest (by omega) (by omega) (by omega)]
  walk_at "wp"
/-- the steepest place, as reckoned up to place i + 1 -/
def bestM (r : List Int) : Nat → Nat
  | 0 => 1
  | i + 1 => if r.getD (i + 1) 0 * (bestM r i : Int) > r.getD (bestM r i - 1) 0 * ((i + 2 : Nat) : Int) then i + 2 else bestM r i
theorem bestM_le (r : List Int) : ∀ i, 1 ≤ bestM r i ∧ bestM r i ≤ i + 1
  | 0 => by simp [bestM]
  | i + 1 => by
    have := bestM_le r i
    simp only [bestM]
    split <;> omega
theorem bestM_step {r : List Int} {i : Nat} {b : Int} (hb : b = bestM r i) : ((bestM r (i + 1) : Nat) : Int) = if r.getD (i + 1) 0 * b > r.getD (b - 1).toNat 0 * (2 + (i : Int)) then 2 + (i : Int) else b := by
  subst hb
  simp only [bestM]
  rw [show ((bestM r i : Int) - 1).toNat = bestM r i - 1 by omega, show ((i + 2 : Nat) : Int) = 2 + (i : Int) by omega]
  split <;> omega
theorem run_steepest {q : Nat} {r : Ru} {many : Int} {w : List WObj} (hr : r.Ok) (h1 : 1 ≤ many) (h2 : many ≤ 200) (hq : 11 ≤ q) : run T q kf_p_steepest [r.enc, .int many] w = .ok (.int (bestM (r.row many.toNat) ((r.row many.toNat).length - 1) : Nat)) false w := by
  obtain ⟨n, rfl⟩ : ∃ n, q = n + 1 := ⟨q - 1, by omega⟩
  have hf := hr.all.1
  have hl := row_len r many.toNat
  have hp := row_pos r (m := many.toNat) (by omega) hf.1
  refine run_w T_p_steepest rfl [.fro r.enc, .fro (.int many), .un, .un, .un] rfl ?_
  unfold fd_p_steepest
  walk_at "wp"
  generalize r.row many.toNat = row at *
  refine x_forT (rangeI 2 (row.length + 1)) .int (fun s0 i s => ∃ c, s = (s0.set 3 (.fro (.int (bestM row i : Nat)))).set 4 c) ?_
  walk_at "wp"
  refine ⟨⟨.un, rfl⟩, ?_, ?_⟩
  · rintro i x s hx ⟨c, rfl⟩
    obtain ⟨rfl, hi⟩ := get_rangeI hx
    have hb := bestM_le row i
    walk_at "wp"
    refine ⟨.inr (by omega), ?_⟩
    walk_at "wp"
    refine ⟨.inr (by omega), ?_⟩
    rw [bestM_step rfl, show (2 + (i : Int) - 1).toNat = i + 1 by omega]
    refine ⟨fun h => ⟨.fro (.int (2 + (i : Int))), ?_⟩, fun h => ⟨.fro (.int (2 + (i : Int))), ?_⟩⟩
    · rw [if_pos h]
    · rw [if_neg h]
  · rintro s ⟨c, rfl⟩
    walk_at "wp"
    rw [show ((row.length : Int) + 1 - 2).toNat = row.length - 1 by omega]
def overF (x : Int) : Nat → List Int → Option Int
  | _, [] => none
  | i, t :: r => if x < t then some (i + 1) else overF x (i + 1) r
theorem run_first_over {q : Nat} {r : Ru} {x many : Int} {w : List WObj} (hr : r.Ok) (h1 : 1 ≤ many) (h2 : many ≤ 200) (hq : 12 ≤ q) : run T q kf_p_first_over [r.enc, .int x, .int many] w = .ok (encO (overF x 0 (totM (r.row many.toNat)))) false w := by
  obtain ⟨n, rfl⟩ : ∃ n, q = n + 1 := ⟨q - 1, by omega⟩
  refine run_w T_p_first_over rfl [.fro r.enc, .fro (.int x), .fro (.int many), .un, .un, .un] rfl ?_
  unfold fd_p_first_over
  walk_at "wp"
  rw [run_totals hr h1 h2 (by omega)]
  have hl := row_len r many.toNat
  have hl2 := totM_len (r.row many.toNat)
  generalize totM (r.row many.toNat) = tot at *
  walk_at "wp"
  refine x_forT (tot.zipIdx 0) (fun p => .tup [.int (0 + (p.2 : Int)), .int p.1]) (fun s0 i s => ∃ c c', s = (s0.set 4 c).set 5 c' ∧ overF x 0 tot = overF x i (tot.drop i)) ?_
  walk_at "wp"
  rw [enumD_map]
  refine ⟨rfl, ⟨.un, .un, rfl⟩, ?_, ?_⟩
  · rintro i ⟨t, j⟩ s hx ⟨c, c', rfl, ho⟩
    have hj : j = i ∧ tot[i]? = some t := by
      rw [List.getElem?_zipIdx] at hx
      obtain ⟨y, hy, e⟩ := Option.map_eq_some_iff.mp hx
      cases e
      exact ⟨by omega, hy⟩
    obtain ⟨rfl, ht⟩ := hj
    have hi : j < tot.length := (List.getElem?_eq_some_iff.mp ht).1
    have ed : tot.drop j = t :: tot.drop (j + 1) := by
      rw [List.drop_eq_getElem_cons hi]
      rw [List.getElem?_eq_getElem hi] at ht
      rw [Option.some.inj ht]
    rw [ed] at ho
    simp only [overF] at ho
    walk_at "wp"
    refine ⟨fun h => ?_, fun h => ?_⟩
    · rw [ho, if_pos h]
      simp [encO]
    · rw [if_neg h] at ho
      exact ⟨_, _, rfl, ho⟩
  · rintro s ⟨c, c', rfl, ho⟩
    walk_at "wp"
    rw [List.length_zipIdx, List.drop_length] at ho
    rw [ho]
    rfl
end DL

set_option pp.deepTerms.threshold 6
/-! W7: where numbers come from. -/
namespace DL
open PySem L2
structure Pt where
  c : List Int
  o : Int
  r : Int
  deriving DecidableEq
def Pt.enc (p : Pt) : D := .tup [.lst (p.c.map .int), .int p.o, .int p.r]
instance : Inhabited Pt := ⟨⟨[], 0, 0⟩⟩
def Pt.unit (f : Nat) (i : Nat) : Pt := ⟨(rangeI 0 f).map fun j => if (i : Int) + 1 = j + 1 then 1 else 0, 0, 0⟩
def Pt.step (made : List Pt) (pre : List Int) (acc : Pt) (t : Tm) : Pt :=
  if t.isRest then ⟨acc.c, acc.o, acc.r + (t.num pre).getD 0⟩
  else ⟨(acc.c.zip (made.getD ((t.place pre).getD 0 - 1).toNat default).c).map fun p => p.1 + p.2, acc.o + (made.getD ((t.place pre).getD 0 - 1).toNat default).o, acc.r + (made.getD ((t.place pre).getD 0 - 1).toNat default).r⟩
/-- how the first i numbers of a row are made -/
def Ru.parts (r : Ru) (row : List Int) : Nat → List Pt
  | 0 => []
  | i + 1 => Ru.parts r row i ++ [if i < r.first.length then Pt.unit r.first.length i else r.terms.foldl (Pt.step (Ru.parts r row i) (row.take i)) ⟨List.replicate r.first.length 0, 1, 0⟩]
theorem parts_len (r : Ru) (row : List Int) : ∀ i, (r.parts row i).length = i
  | 0 => rfl
  | i + 1 => by simp [Ru.parts, parts_len r row i]
theorem parts_get (r : Ru) (row : List Int) {i n : Nat} (h : i < n) : (r.parts row n)[i]? = some (if i < r.first.length then Pt.unit r.first.length i else r.terms.foldl (Pt.step (r.parts row i) (row.take i)) ⟨List.replicate r.first.length 0, 1, 0⟩) := by
  induction n with
  | zero => omega
  | succ n ih =>
    simp only [Ru.parts]
    by_cases e : i = n
    · subst e
      rw [List.getElem?_append_right (by rw [parts_len]; omega), parts_len]
      simp
    · rw [List.getElem?_append_left (by rw [parts_len]; omega)]
      exact ih (by omega)
/-- the parts of a beginning -/
theorem parts_take (r : Ru) (row : List Int) (m : Nat) : ∀ i, i ≤ m → r.parts (row.take m) i = r.parts row i
  | 0, _ => rfl
  | i + 1, h => by
    simp only [Ru.parts, parts_take r row m i (by omega)]
    rw [List.take_take, Nat.min_eq_left (by omega)]
/-- each term tells a number there -/
theorem allSome_all : ∀ {xs : List (Option Int)} {ys : List Int}, allSome xs = some ys → ∀ x ∈ xs, ∃ y, x = some y := fun {xs ys} h x hx => by
  rw [allSome_some h] at hx
  obtain ⟨y, _, rfl⟩ := List.mem_map.mp hx
  exact ⟨y, rfl⟩
theorem row_terms (r : Ru) {m i : Nat} (h1 : r.first.length ≤ i) (h2 : i < (r.row m).length) : ∃ ys, allSome (r.terms.map (Tm.num ((r.row m).take i))) = some ys ∧ (r.row m)[i]? = some (r.more + ys.sum) := by
  have h := row_next r h1 h2
  rw [List.getElem?_eq_getElem h2] at h ⊢
  unfold Ru.next at h
  obtain ⟨ys, e1, e2⟩ := Option.map_eq_some_iff.mp h
  exact ⟨ys, e1, by rw [e2]⟩
theorem row_term (r : Ru) {m i : Nat} (h1 : r.first.length ≤ i) (h2 : i < (r.row m).length) {t : Tm} (ht : t ∈ r.terms) : ∃ y, t.num ((r.row m).take i) = some y := by
  obtain ⟨ys, e, _⟩ := row_terms r h1 h2
  exact allSome_all e _ (List.mem_map_of_mem ht)
theorem here_some {row : List Int} {p y : Int} (h : here row p = some y) : 1 ≤ p ∧ p ≤ row.length ∧ y = row.getD (p - 1).toNat 0 := by
  unfold here at h
  split at h
  · rename_i hp
    refine ⟨hp.1, hp.2, ?_⟩
    rw [List.getD, h]; rfl
  · cases h
/-- a term that is no rest looks at a place -/
theorem num_place {row : List Int} {t : Tm} {y : Int} (hr : t.isRest = false) (h : t.num row = some y) : ∃ p, t.place row = some p ∧ 1 ≤ p ∧ p ≤ row.length ∧ y = row.getD (p - 1).toNat 0 := by
  unfold Tm.num numOf at h
  cases q : t.place row with
  | none => rw [q] at h; cases h
  | some p =>
    rw [q, hr] at h
    exact ⟨p, rfl, here_some h⟩
theorem num_rest {row : List Int} {t : Tm} (hr : t.isRest = true) : t.num row = t.place row := by
  unfold Tm.num numOf
  cases t.place row with
  | none => rfl
  | some p => rw [hr]; rfl
theorem foldl_len (made : List Pt) (pre : List Int) : ∀ (ts : List Tm) (acc : Pt), (ts.foldl (Pt.step made pre) acc).c.length ≤ acc.c.length
  | [], acc => Nat.le_refl _
  | t :: ts, acc => by
    refine Nat.le_trans (foldl_len made pre ts _) ?_
    unfold Pt.step
    split
    · exact Nat.le_refl _
    · simp only [List.length_map, List.length_zip]; omega
theorem rep_int (k : Nat) (i : Int) : (List.replicate k [D.int i]).flatten = (List.replicate k i).map .int := by
  induction k with
  | zero => rfl
  | succ k ih => simp [List.replicate_succ, ih]
theorem imm_pt (p : Pt) : imm p.enc = false := by simp [Pt.enc, imm, imms]
theorem tm_tag {t : Tm} : ∃ x r, t.enc = .tup (.str x :: r) ∧ eqD (.str x) (.str "rest") = some t.isRest := by
  cases t with
  | «at» n => exact ⟨_, _, rfl, DL.sq_at_rest⟩
  | of u => exact ⟨_, _, rfl, DL.sq_of_rest⟩
  | back n u => exact ⟨_, _, rfl, DL.sq_back_rest⟩
  | rest n u => exact ⟨_, _, rfl, DL.sq_rest_rest⟩
local macro_rules | `(tactic| walk_at "wp") => `(tactic| try simp (disch := first | assumption | omega) only [↓DL.H_ok, ↓DL.H_bind, ↓DL.H_opt, ↓DL.optK_some, ↓DL.optK_ite, ↓DL.condK_true, ↓DL.condK_false, ↓DL.condK_dec, ↓DL.condK_not, ↓DL.varK_fro, ↓DL.varK_own, ↓DL.callR_ok, ↓DL.callR_exc, ↓DL.e_var, ↓DL.e_glob, ↓DL.e_int, ↓DL.e_bl, ↓DL.e_str, ↓DL.e_non, ↓DL.e_bin, ↓DL.e_neg, ↓DL.H_asBl, ↓DL.e_not, ↓DL.e_and, ↓DL.e_or, ↓DL.e_and1, ↓DL.e_or1, ↓DL.H_if, ↓DL.e_and2, ↓DL.e_or2, ↓DL.e_cmp, ↓DL.e_chain, ↓DL.e_isN, ↓DL.e_isB, ↓DL.e_ife, ↓DL.H_ite, ↓DL.e_tup, ↓DL.e_lst, ↓DL.e_dic0, ↓DL.e_fz0, ↓DL.e_fz, ↓DL.e_es0, ↓DL.e_es, ↓DL.e_ix, ↓DL.e_slice, ↓DL.e_o0, ↓DL.e_o, ↓DL.e_bi, ↓DL.e_isi, ↓DL.e_meth, ↓DL.e_call, ↓DL.e_revs, ↓DL.e_orT, ↓DL.e_setf, ↓DL.HO_out, ↓DL.x_nil, ↓DL.x_cons, ↓DL.HO_nx, ↓DL.HO_if, ↓DL.HO_ite, ↓DL.x_asg, ↓DL.x_expr, ↓DL.x_ret, ↓DL.x_ite, ↓DL.x_pass, ↓DL.x_brk, ↓DL.x_raise, ↓DL.x_par, ↓DL.x_asgT, ↓DL.x_append', ↓DL.x_extend', ↓DL.x_setix', ↓DL.s_seq, ↓DL.s_rng1, ↓DL.s_rng2, ↓DL.s_enum, ↓DL.s_zip, ↓DL.c_none, ↓DL.c_some, DL.seqL_lst, DL.seqL_tup, DL.enumL_lst, DL.zipL_lst, DL.zipL_tup, DL.rngD_ok, DL.len_rangeI, DL.stK_mk, DL.put_fro, DL.put_fre, DL.put_bor, DL.fz_fro, DL.fz_fre, DL.fz_bor, DL.set_mk, DL.wipe_nil, DL.wipe_cons, DL.bindT_nm, DL.bindT_tp, DL.frz_mk, DL.frzC_own, DL.frzC_fro, DL.fzs_nil, DL.fzs_cons, DL.add_int, DL.add_lst, DL.add_tup, DL.sub_int, DL.mul_int, DL.mul_lst, DL.mul_tup, DL.fdiv_int, DL.md_int, DL.lt_int, DL.le_int, DL.gt_int, DL.ge_int, DL.eq_any, DL.ne_any, DL.isin_any, DL.notin_any, DL.blOf_bl, DL.intOf_int, DL.len_lst, DL.len_tup, DL.len_scr, DL.ix_lst, DL.ix_tup, DL.ix_scr, DL.ix_dic, DL.eq_int, DL.eq_lints, DL.eq_lints_nil, DL.scr_eq_nil, DL.imm_int, DL.imm_bl, DL.imm_non, DL.imm_str, DL.imm_lst, DL.imm_tup, DL.imms_nil, DL.imms_cons, DL.imms_ints, DL.own_fro, DL.own_fre, DL.own_bor, DL.ownB_own, DL.ownB_fro, DL.clOf_fro, DL.clOf_fre, DL.clOf_bor, DL.isNon_non, DL.isNon_int, DL.isNon_tup, DL.isNon_lst, DL.isNon_str, DL.slice_lst, DL.slice_tup, DL.list_lst, DL.list_tup, DL.tuple_lst, DL.tuple_tup, DL.sum_lst, DL.sum_tup, DL.all_lst, DL.max_int, DL.min_int, DL.abs_int, DL.int_bl, DL.int_int, DL.intsOf_map, DL.blsOf_map, DL.truD_lst, DL.setD_len, DL.setD_srt, DL.sorted_lst, DL.sorted_dic, DL.get1_dic, DL.get2_dic, DL.count_lst, DL.recv_get, DL.recv_count, DL.recv_index, DL.keyOf_int, DL.keyOf_str, DL.appK_own, DL.extK_own, DL.setK_dic, DL.setK_lst, DL.isOwnL_own, DL.isOwn_own, DL.isi_ii, DL.isi_ib, DL.isi_tt, DL.isi_ss, DL.isi_ll, DL.isi_bi, DL.isi_bb, DL.isi_lt, DL.isi_tl, DL.at0, DL.at1, DL.at2, DL.last1, DL.last2, DL.last3, DL.at_ints, DL.encO_some, DL.encO_none, CRes.ok.injEq, D.bl.injEq, D.int.injEq, D.lst.injEq, D.tup.injEq, D.str.injEq, DL.ints_inj, Prod.mk.injEq, if_true, if_false, Bool.false_eq_true, Bool.true_eq_false, Bool.and_true, Bool.true_and, Bool.and_self, Bool.and_false, Bool.false_and, List.length_cons, List.length_nil, List.length_map, Nat.reduceAdd, Nat.reduceLeDiff, true_and, and_true, List.zip_cons_cons, List.zip_nil_right, List.foldl_cons, List.foldl_nil, bne_self_eq_false, Bool.bne_false, Bool.bne_true, Bool.not_false, Bool.not_true, Option.map_none, List.cons_append, List.nil_append, Nat.reduceLT, or_self, and_self, or_true, true_or, or_false, false_or, and_false, false_and, Int.cast_ofNat_Int, Int.reduceLT, Int.reduceLE, Int.reduceEq, Int.reduceNeg, Int.reduceAdd, Int.reduceSub, Int.reduceToNat, true_imp_iff, false_imp_iff, not_true_eq_false, not_false_eq_true, Bool.not_eq_true, Bool.not_eq_false, List.getElem?_cons_succ, List.getElem?_cons_zero, List.set_cons_zero, List.set_cons_succ, List.map_cons, List.map_nil, List.drop_zero, List.take_zero, DL.omap, DL.obind, eq_self, decide_true, decide_false, decide_eq_true_eq, decide_eq_false_iff_not, imp_false, Classical.not_not, reduceCtorEq, implies_true, DL.sq_at_at, DL.sq_at_of, DL.sq_at_back, DL.sq_at_rest, DL.sq_of_at, DL.sq_of_of, DL.sq_of_back, DL.sq_of_rest, DL.sq_back_at, DL.sq_back_of, DL.sq_back_back, DL.sq_back_rest, DL.sq_rest_at, DL.sq_rest_of, DL.sq_rest_back, DL.sq_rest_rest, DL.imm_ru, DL.imm_enc, DL.imm_encO, DL.imm_pt, DL.run_pk, DL.run_look_rule, DL.run_look_many, DL.run_row, DL.run_numbers, DL.cut_takeI, DL.cut_dropI, DL.cut_bothI])
local macro_rules | `(tactic| walk_at "ws") => `(tactic| try simp (disch := first | assumption | omega) only [↓DL.H_ok, ↓DL.H_bind, ↓DL.H_opt, ↓DL.optK_some, ↓DL.optK_ite, ↓DL.condK_true, ↓DL.condK_false, ↓DL.condK_dec, ↓DL.condK_not, ↓DL.varK_fro, ↓DL.varK_own, ↓DL.callR_ok, ↓DL.callR_exc, ↓DL.e_var, ↓DL.e_glob, ↓DL.e_int, ↓DL.e_bl, ↓DL.e_str, ↓DL.e_non, ↓DL.e_bin, ↓DL.e_neg, ↓DL.H_asBl, ↓DL.e_not, ↓DL.e_and, ↓DL.e_or, ↓DL.e_and1, ↓DL.e_or1, ↓DL.H_if, ↓DL.e_and2, ↓DL.e_or2, ↓DL.e_cmp, ↓DL.e_chain, ↓DL.e_isN, ↓DL.e_isB, ↓DL.e_ife, ↓DL.H_ite, ↓DL.e_tup, ↓DL.e_lst, ↓DL.e_dic0, ↓DL.e_fz0, ↓DL.e_fz, ↓DL.e_es0, ↓DL.e_es, ↓DL.e_ix, ↓DL.e_slice, ↓DL.e_o0, ↓DL.e_o, ↓DL.e_bi, ↓DL.e_isi, ↓DL.e_meth, ↓DL.e_call, ↓DL.e_revs, ↓DL.e_orT, ↓DL.e_setf, ↓DL.HO_out, ↓DL.x_nil, ↓DL.x_cons, ↓DL.HO_nx, ↓DL.HO_if, ↓DL.HO_ite, ↓DL.x_asg, ↓DL.x_expr, ↓DL.x_ret, ↓DL.x_ite, ↓DL.x_pass, ↓DL.x_brk, ↓DL.x_raise, ↓DL.x_par, ↓DL.x_asgT, ↓DL.x_append', ↓DL.x_extend', ↓DL.x_setix', ↓DL.s_seq, ↓DL.s_rng1, ↓DL.s_rng2, ↓DL.s_enum, ↓DL.s_zip, ↓DL.c_none, ↓DL.c_some, DL.seqL_lst, DL.seqL_tup, DL.enumL_lst, DL.zipL_lst, DL.zipL_tup, DL.rngD_ok, DL.len_rangeI, DL.stK_mk, DL.put_fro, DL.put_fre, DL.put_bor, DL.fz_fro, DL.fz_fre, DL.fz_bor, DL.set_mk, DL.wipe_nil, DL.wipe_cons, DL.bindT_nm, DL.bindT_tp, DL.frz_mk, DL.frzC_own, DL.frzC_fro, DL.fzs_nil, DL.fzs_cons, DL.add_int, DL.add_lst, DL.add_tup, DL.sub_int, DL.mul_int, DL.mul_lst, DL.mul_tup, DL.fdiv_int, DL.md_int, DL.lt_int, DL.le_int, DL.gt_int, DL.ge_int, DL.eq_any, DL.ne_any, DL.isin_any, DL.notin_any, DL.blOf_bl, DL.intOf_int, DL.len_lst, DL.len_tup, DL.len_scr, DL.ix_lst, DL.ix_tup, DL.ix_scr, DL.ix_dic, DL.eq_int, DL.eq_lints, DL.eq_lints_nil, DL.scr_eq_nil, DL.imm_int, DL.imm_bl, DL.imm_non, DL.imm_str, DL.imm_lst, DL.imm_tup, DL.imms_nil, DL.imms_cons, DL.imms_ints, DL.own_fro, DL.own_fre, DL.own_bor, DL.ownB_own, DL.ownB_fro, DL.clOf_fro, DL.clOf_fre, DL.clOf_bor, DL.isNon_non, DL.isNon_int, DL.isNon_tup, DL.isNon_lst, DL.isNon_str, DL.slice_lst, DL.slice_tup, DL.list_lst, DL.list_tup, DL.tuple_lst, DL.tuple_tup, DL.sum_lst, DL.sum_tup, DL.all_lst, DL.max_int, DL.min_int, DL.abs_int, DL.int_bl, DL.int_int, DL.intsOf_map, DL.blsOf_map, DL.truD_lst, DL.setD_len, DL.setD_srt, DL.sorted_lst, DL.sorted_dic, DL.get1_dic, DL.get2_dic, DL.count_lst, DL.recv_get, DL.recv_count, DL.recv_index, DL.keyOf_int, DL.keyOf_str, DL.appK_own, DL.extK_own, DL.setK_dic, DL.setK_lst, DL.isOwnL_own, DL.isOwn_own, DL.isi_ii, DL.isi_ib, DL.isi_tt, DL.isi_ss, DL.isi_ll, DL.isi_bi, DL.isi_bb, DL.isi_lt, DL.isi_tl, DL.at0, DL.at1, DL.at2, DL.last1, DL.last2, DL.last3, DL.at_ints, DL.encO_some, DL.encO_none, CRes.ok.injEq, D.bl.injEq, D.int.injEq, D.lst.injEq, D.tup.injEq, D.str.injEq, DL.ints_inj, Prod.mk.injEq, if_true, if_false, Bool.false_eq_true, Bool.true_eq_false, Bool.and_true, Bool.true_and, Bool.and_self, Bool.and_false, Bool.false_and, List.length_cons, List.length_nil, List.length_map, Nat.reduceAdd, Nat.reduceLeDiff, true_and, and_true, List.zip_cons_cons, List.zip_nil_right, List.foldl_cons, List.foldl_nil, bne_self_eq_false, Bool.bne_false, Bool.bne_true, Bool.not_false, Bool.not_true, Option.map_none, List.cons_append, List.nil_append, Nat.reduceLT, or_self, and_self, or_true, true_or, or_false, false_or, and_false, false_and, Int.cast_ofNat_Int, Int.reduceLT, Int.reduceLE, Int.reduceEq, Int.reduceNeg, Int.reduceAdd, Int.reduceSub, Int.reduceToNat, true_imp_iff, false_imp_iff, not_true_eq_false, not_false_eq_true, Bool.not_eq_true, Bool.not_eq_false, List.getElem?_cons_succ, List.getElem?_cons_zero, List.set_cons_zero, List.set_cons_succ, List.map_cons, List.map_nil, List.drop_zero, List.take_zero, DL.omap, DL.obind, eq_self, decide_true, decide_false, decide_eq_true_eq, decide_eq_false_iff_not, imp_false, Classical.not_not, reduceCtorEq, implies_true, DL.sq_at_at, DL.sq_at_of, DL.sq_at_back, DL.sq_at_rest, DL.sq_of_at, DL.sq_of_of, DL.sq_of_back, DL.sq_of_rest, DL.sq_back_at, DL.sq_back_of, DL.sq_back_back, DL.sq_back_rest, DL.sq_rest_at, DL.sq_rest_of, DL.sq_rest_back, DL.sq_rest_rest, DL.imm_ru, DL.imm_enc, DL.imm_encO, DL.imm_pt, DL.run_pk, DL.run_look_rule, DL.run_look_many, DL.run_row, DL.run_numbers, DL.cut_takeI, DL.cut_dropI, DL.cut_bothI, *])
local macro_rules | `(tactic| walk_at "wi") => `(tactic| try simp (disch := first | assumption | omega) only [↓DL.H_ok, ↓DL.H_bind, ↓DL.H_opt, ↓DL.optK_some, ↓DL.optK_ite, ↓DL.condK_true, ↓DL.condK_false, ↓DL.condK_dec, ↓DL.condK_not, ↓DL.varK_fro, ↓DL.varK_own, ↓DL.callR_ok, ↓DL.callR_exc, ↓DL.e_var, ↓DL.e_glob, ↓DL.e_int, ↓DL.e_bl, ↓DL.e_str, ↓DL.e_non, ↓DL.e_bin, ↓DL.e_neg, ↓DL.H_asBl, ↓DL.e_not, ↓DL.e_and, ↓DL.e_or, ↓DL.e_and1, ↓DL.e_or1, ↓DL.H_if, ↓DL.e_and2, ↓DL.e_or2, ↓DL.e_cmp, ↓DL.e_chain, ↓DL.e_isN, ↓DL.e_isB, ↓DL.H_ite, ↓DL.e_tup, ↓DL.e_lst, ↓DL.e_dic0, ↓DL.e_fz0, ↓DL.e_fz, ↓DL.e_es0, ↓DL.e_es, ↓DL.e_ix, ↓DL.e_slice, ↓DL.e_o0, ↓DL.e_o, ↓DL.e_bi, ↓DL.e_isi, ↓DL.e_meth, ↓DL.e_call, ↓DL.e_revs, ↓DL.e_orT, ↓DL.e_setf, ↓DL.HO_out, ↓DL.x_nil, ↓DL.x_cons, ↓DL.HO_nx, ↓DL.HO_if, ↓DL.HO_ite, ↓DL.x_asg, ↓DL.x_expr, ↓DL.x_ret, ↓DL.x_pass, ↓DL.x_brk, ↓DL.x_raise, ↓DL.x_par, ↓DL.x_asgT, ↓DL.x_append', ↓DL.x_extend', ↓DL.x_setix', ↓DL.s_seq, ↓DL.s_rng1, ↓DL.s_rng2, ↓DL.s_enum, ↓DL.s_zip, ↓DL.c_none, ↓DL.c_some, DL.seqL_lst, DL.seqL_tup, DL.enumL_lst, DL.zipL_lst, DL.zipL_tup, DL.rngD_ok, DL.len_rangeI, DL.stK_mk, DL.put_fro, DL.put_fre, DL.put_bor, DL.fz_fro, DL.fz_fre, DL.fz_bor, DL.set_mk, DL.wipe_nil, DL.wipe_cons, DL.bindT_nm, DL.bindT_tp, DL.frz_mk, DL.frzC_own, DL.frzC_fro, DL.fzs_nil, DL.fzs_cons, DL.add_int, DL.add_lst, DL.add_tup, DL.sub_int, DL.mul_int, DL.mul_lst, DL.mul_tup, DL.fdiv_int, DL.md_int, DL.lt_int, DL.le_int, DL.gt_int, DL.ge_int, DL.eq_any, DL.ne_any, DL.isin_any, DL.notin_any, DL.blOf_bl, DL.intOf_int, DL.len_lst, DL.len_tup, DL.len_scr, DL.ix_lst, DL.ix_tup, DL.ix_scr, DL.ix_dic, DL.eq_int, DL.eq_lints, DL.eq_lints_nil, DL.scr_eq_nil, DL.imm_int, DL.imm_bl, DL.imm_non, DL.imm_str, DL.imm_lst, DL.imm_tup, DL.imms_nil, DL.imms_cons, DL.imms_ints, DL.own_fro, DL.own_fre, DL.own_bor, DL.ownB_own, DL.ownB_fro, DL.clOf_fro, DL.clOf_fre, DL.clOf_bor, DL.isNon_non, DL.isNon_int, DL.isNon_tup, DL.isNon_lst, DL.isNon_str, DL.slice_lst, DL.slice_tup, DL.list_lst, DL.list_tup, DL.tuple_lst, DL.tuple_tup, DL.sum_lst, DL.sum_tup, DL.all_lst, DL.max_int, DL.min_int, DL.abs_int, DL.int_bl, DL.int_int, DL.intsOf_map, DL.blsOf_map, DL.truD_lst, DL.setD_len, DL.setD_srt, DL.sorted_lst, DL.sorted_dic, DL.get1_dic, DL.get2_dic, DL.count_lst, DL.recv_get, DL.recv_count, DL.recv_index, DL.keyOf_int, DL.keyOf_str, DL.appK_own, DL.extK_own, DL.setK_dic, DL.setK_lst, DL.isOwnL_own, DL.isOwn_own, DL.isi_ii, DL.isi_ib, DL.isi_tt, DL.isi_ss, DL.isi_ll, DL.isi_bi, DL.isi_bb, DL.isi_lt, DL.isi_tl, DL.at0, DL.at1, DL.at2, DL.last1, DL.last2, DL.last3, DL.at_ints, DL.encO_some, DL.encO_none, CRes.ok.injEq, D.bl.injEq, D.int.injEq, D.lst.injEq, D.tup.injEq, D.str.injEq, DL.ints_inj, Prod.mk.injEq, if_true, if_false, Bool.false_eq_true, Bool.true_eq_false, Bool.and_true, Bool.true_and, Bool.and_self, Bool.and_false, Bool.false_and, List.length_cons, List.length_nil, List.length_map, Nat.reduceAdd, Nat.reduceLeDiff, true_and, and_true, List.zip_cons_cons, List.zip_nil_right, List.foldl_cons, List.foldl_nil, bne_self_eq_false, Bool.bne_false, Bool.bne_true, Bool.not_false, Bool.not_true, Option.map_none, List.cons_append, List.nil_append, Nat.reduceLT, or_self, and_self, or_true, true_or, or_false, false_or, and_false, false_and, Int.cast_ofNat_Int, Int.reduceLT, Int.reduceLE, Int.reduceEq, Int.reduceNeg, Int.reduceAdd, Int.reduceSub, Int.reduceToNat, true_imp_iff, false_imp_iff, not_true_eq_false, not_false_eq_true, Bool.not_eq_true, Bool.not_eq_false, List.getElem?_cons_succ, List.getElem?_cons_zero, List.set_cons_zero, List.set_cons_succ, List.map_cons, List.map_nil, List.drop_zero, List.take_zero, DL.omap, DL.obind, eq_self, decide_true, decide_false, decide_eq_true_eq, decide_eq_false_iff_not, imp_false, Classical.not_not, reduceCtorEq, implies_true, DL.sq_at_at, DL.sq_at_of, DL.sq_at_back, DL.sq_at_rest, DL.sq_of_at, DL.sq_of_of, DL.sq_of_back, DL.sq_of_rest, DL.sq_back_at, DL.sq_back_of, DL.sq_back_back, DL.sq_back_rest, DL.sq_rest_at, DL.sq_rest_of, DL.sq_rest_back, DL.sq_rest_rest, DL.imm_ru, DL.imm_enc, DL.imm_encO, DL.imm_pt, DL.run_pk, DL.run_look_rule, DL.run_look_many, DL.run_row, DL.run_numbers, DL.cut_takeI, DL.cut_dropI, DL.cut_bothI])
local macro_rules | `(tactic| walk_at "wj") => `(tactic| try simp (disch := first | assumption | omega) only [↓DL.H_ok, ↓DL.H_bind, ↓DL.H_opt, ↓DL.optK_some, ↓DL.optK_ite, ↓DL.condK_true, ↓DL.condK_false, ↓DL.condK_dec, ↓DL.condK_not, ↓DL.varK_fro, ↓DL.varK_own, ↓DL.callR_ok, ↓DL.callR_exc, ↓DL.e_var, ↓DL.e_glob, ↓DL.e_int, ↓DL.e_bl, ↓DL.e_str, ↓DL.e_non, ↓DL.e_bin, ↓DL.e_neg, ↓DL.H_asBl, ↓DL.e_not, ↓DL.e_and, ↓DL.e_or, ↓DL.e_and1, ↓DL.e_or1, ↓DL.H_if, ↓DL.e_and2, ↓DL.e_or2, ↓DL.e_cmp, ↓DL.e_chain, ↓DL.e_isN, ↓DL.e_isB, ↓DL.H_ite, ↓DL.e_tup, ↓DL.e_lst, ↓DL.e_dic0, ↓DL.e_fz0, ↓DL.e_fz, ↓DL.e_es0, ↓DL.e_es, ↓DL.e_ix, ↓DL.e_slice, ↓DL.e_o0, ↓DL.e_o, ↓DL.e_bi, ↓DL.e_isi, ↓DL.e_meth, ↓DL.e_call, ↓DL.e_revs, ↓DL.e_orT, ↓DL.e_setf, ↓DL.HO_out, ↓DL.x_nil, ↓DL.x_cons, ↓DL.HO_nx, ↓DL.HO_if, ↓DL.HO_ite, ↓DL.x_asg, ↓DL.x_expr, ↓DL.x_ret, ↓DL.x_pass, ↓DL.x_brk, ↓DL.x_raise, ↓DL.x_par, ↓DL.x_asgT, ↓DL.x_append', ↓DL.x_extend', ↓DL.x_setix', ↓DL.s_seq, ↓DL.s_rng1, ↓DL.s_rng2, ↓DL.s_enum, ↓DL.s_zip, ↓DL.c_none, ↓DL.c_some, DL.seqL_lst, DL.seqL_tup, DL.enumL_lst, DL.zipL_lst, DL.zipL_tup, DL.rngD_ok, DL.len_rangeI, DL.stK_mk, DL.put_fro, DL.put_fre, DL.put_bor, DL.fz_fro, DL.fz_fre, DL.fz_bor, DL.set_mk, DL.wipe_nil, DL.wipe_cons, DL.bindT_nm, DL.bindT_tp, DL.frz_mk, DL.frzC_own, DL.frzC_fro, DL.fzs_nil, DL.fzs_cons, DL.add_int, DL.add_lst, DL.add_tup, DL.sub_int, DL.mul_int, DL.mul_lst, DL.mul_tup, DL.fdiv_int, DL.md_int, DL.lt_int, DL.le_int, DL.gt_int, DL.ge_int, DL.eq_any, DL.ne_any, DL.isin_any, DL.notin_any, DL.blOf_bl, DL.intOf_int, DL.len_lst, DL.len_tup, DL.len_scr, DL.ix_lst, DL.ix_tup, DL.ix_scr, DL.ix_dic, DL.eq_int, DL.eq_lints, DL.eq_lints_nil, DL.scr_eq_nil, DL.imm_int, DL.imm_bl, DL.imm_non, DL.imm_str, DL.imm_lst, DL.imm_tup, DL.imms_nil, DL.imms_cons, DL.imms_ints, DL.own_fro, DL.own_fre, DL.own_bor, DL.ownB_own, DL.ownB_fro, DL.clOf_fro, DL.clOf_fre, DL.clOf_bor, DL.isNon_non, DL.isNon_int, DL.isNon_tup, DL.isNon_lst, DL.isNon_str, DL.slice_lst, DL.slice_tup, DL.list_lst, DL.list_tup, DL.tuple_lst, DL.tuple_tup, DL.sum_lst, DL.sum_tup, DL.all_lst, DL.max_int, DL.min_int, DL.abs_int, DL.int_bl, DL.int_int, DL.intsOf_map, DL.blsOf_map, DL.truD_lst, DL.setD_len, DL.setD_srt, DL.sorted_lst, DL.sorted_dic, DL.get1_dic, DL.get2_dic, DL.count_lst, DL.recv_get, DL.recv_count, DL.recv_index, DL.keyOf_int, DL.keyOf_str, DL.appK_own, DL.extK_own, DL.setK_dic, DL.setK_lst, DL.isOwnL_own, DL.isOwn_own, DL.isi_ii, DL.isi_ib, DL.isi_tt, DL.isi_ss, DL.isi_ll, DL.isi_bi, DL.isi_bb, DL.isi_lt, DL.isi_tl, DL.at0, DL.at1, DL.at2, DL.last1, DL.last2, DL.last3, DL.at_ints, DL.encO_some, DL.encO_none, CRes.ok.injEq, D.bl.injEq, D.int.injEq, D.lst.injEq, D.tup.injEq, D.str.injEq, DL.ints_inj, Prod.mk.injEq, if_true, if_false, Bool.false_eq_true, Bool.true_eq_false, Bool.and_true, Bool.true_and, Bool.and_self, Bool.and_false, Bool.false_and, List.length_cons, List.length_nil, List.length_map, Nat.reduceAdd, Nat.reduceLeDiff, true_and, and_true, List.zip_cons_cons, List.zip_nil_right, List.foldl_cons, List.foldl_nil, bne_self_eq_false, Bool.bne_false, Bool.bne_true, Bool.not_false, Bool.not_true, Option.map_none, List.cons_append, List.nil_append, Nat.reduceLT, or_self, and_self, or_true, true_or, or_false, false_or, and_false, false_and, Int.cast_ofNat_Int, Int.reduceLT, Int.reduceLE, Int.reduceEq, Int.reduceNeg, Int.reduceAdd, Int.reduceSub, Int.reduceToNat, true_imp_iff, false_imp_iff, not_true_eq_false, not_false_eq_true, Bool.not_eq_true, Bool.not_eq_false, List.getElem?_cons_succ, List.getElem?_cons_zero, List.set_cons_zero, List.set_cons_succ, List.map_cons, List.map_nil, List.drop_zero, List.take_zero, DL.omap, DL.obind, eq_self, decide_true, decide_false, decide_eq_true_eq, decide_eq_false_iff_not, imp_false, Classical.not_not, reduceCtorEq, implies_true, DL.sq_at_at, DL.sq_at_of, DL.sq_at_back, DL.sq_at_rest, DL.sq_of_at, DL.sq_of_of, DL.sq_of_back, DL.sq_of_rest, DL.sq_back_at, DL.sq_back_of, DL.sq_back_back, DL.sq_back_rest, DL.sq_rest_at, DL.sq_rest_of, DL.sq_rest_back, DL.sq_rest_rest, DL.imm_ru, DL.imm_enc, DL.imm_encO, DL.imm_pt, DL.run_pk, DL.run_look_rule, DL.run_look_many, DL.run_row, DL.run_numbers, DL.cut_takeI, DL.cut_dropI, DL.cut_bothI, *])
theorem run_parts {q : Nat} {r : Ru} {m : Int} {w : List WObj} (hr : r.Ok) (h0 : 0 ≤ m) (hm : m ≤ 200) (hq : 10 ≤ q) : run T q kf_p_parts_of [r.enc, .int m] w = .ok (.lst ((r.parts (r.row m.toNat) (r.row m.toNat).length).map Pt.enc)) true w := by
  obtain ⟨n, rfl⟩ : ∃ n, q = n + 1 := ⟨q - 1, by omega⟩
  have hf := hr.all
  have hl := row_len r m.toNat
  refine run_w T_p_parts_of rfl [.fro r.enc, .fro (.int m), .un, .un, .un, .un, .un, .un, .un, .un, .un, .un] rfl ?_
  unfold fd_p_parts_of
  have er := run_row (n := n) (w := w) hr h0 (by omega) (by omega)
  have tms := fun (i : Nat) (h1 : r.first.length ≤ i) (h2 : i < (r.row m.toNat).length) (t : Tm) (ht : t ∈ r.terms) => row_term r h1 h2 ht
  generalize r.row m.toNat = row at *
  simp only [Ru.enc] at *
  walk_at "wj"
  refine x_forT (rangeI 1 (row.length + 1)) .int (fun s0 i s => ∃ c4 c5 c6 c7 c8 c9 c10 c11, s = ⟨[.fro r.enc, .fro (.int m), .own (.lst (row.map .int)), .own (.lst ((r.parts row i).map Pt.enc)), c4, c5, c6, c7, c8, c9, c10, c11], w⟩) ?_
  walk_at "wp"
  refine ⟨⟨.un, .un, .un, .un, .un, .un, .un, .un, rfl⟩, ?_, ?_⟩
  · rintro i x s hx ⟨c4, c5, c6, c7, c8, c9, c10, c11, rfl⟩
    obtain ⟨rfl, hi⟩ := get_rangeI hx
    simp only [Ru.enc]
    walk_at "wp"
    refine ⟨fun h => ?_, fun h => ⟨⟨by omega, by omega, by simp; omega⟩, ?_⟩⟩
    · refine e_lcM (rangeI 0 r.first.length) .int (fun j => .int (if (i : Int) + 1 = j + 1 then 1 else 0)) ?_
      walk_at "wp"
      have pl := parts_len r row i
      refine ⟨by omega, fun j hj => ?_, by omega, .fro (.int (1 + i)), c5, c6, c7, c8, c9, c10, c11, ?_⟩
      · rw [Int.add_comm 1 (i : Int)]
      · rw [show r.parts row (i + 1) = r.parts row i ++ [Pt.unit r.first.length i] by simp only [Ru.parts]; rw [if_pos (by omega)]]
        simp [Pt.enc, Pt.unit, Ru.enc]
    · rw [rep_int]
      refine x_forT r.terms Tm.enc (fun s0 j s => ∃ c5 c9 c10 c11, s = ⟨[.fro r.enc, .fro (.int m), .own (.lst (row.map .int)), .own (.lst ((r.parts row i).map Pt.enc)), .fro (.int (1 + i)), c5, .own (.lst (((r.terms.take j).foldl (Pt.step (r.parts row i) (row.take i)) ⟨List.replicate r.first.length 0, 1, 0⟩).c.map .int)), .fro (.int ((r.terms.take j).foldl (Pt.step (r.parts row i) (row.take i)) ⟨List.replicate r.first.length 0, 1, 0⟩).o), .fro (.int ((r.terms.take j).foldl (Pt.step (r.parts row i) (row.take i)) ⟨List.replicate r.first.length 0, 1, 0⟩).r), c9, c10, c11], w⟩) ?_
      walk_at "wp"
      refine ⟨⟨c5, c9, c10, c11, rfl⟩, ?_, ?_⟩
      · rintro j t s ht ⟨c5, c9, c10, c11, rfl⟩
        have tm : t ∈ r.terms := List.mem_of_getElem? ht
        obtain ⟨y, hy⟩ := tms i (by omega) (by omega) t tm
        have hd := hr.dep t tm
        rw [take_snoc ht, List.foldl_append, List.foldl_cons, List.foldl_nil]
        have hacc := foldl_len (r.parts row i) (row.take i) (r.terms.take j) ⟨List.replicate r.first.length 0, 1, 0⟩
        rw [List.length_replicate] at hacc
        generalize (r.terms.take j).foldl (Pt.step (r.parts row i) (row.take i)) ⟨List.replicate r.first.length 0, 1, 0⟩ = acc at hacc ⊢
        obtain ⟨x, tl, et, eq⟩ := tm_tag (t := t)
        have rn := run_num (row := row.take i) (t := t) (m := n) (w := w) (by omega)
        have rp := run_pl (row := row.take i) (t := t) (m := n) (w := w) (by omega)
        rw [List.map_take] at rn rp
        have ei : (1 + (i : Int) - 1).toNat = i := by omega
        simp only [Ru.enc]
        rw [et] at rn rp ⊢
        cases hh : t.isRest with
        | true =>
          rw [hh] at eq
          rw [hy] at rn
          simp only [encO_some] at rn
          walk_at "wp"
          rw [eq]
          walk_at "wp"
          rw [ei, rn]
          walk_at "wp"
          refine ⟨c5, .fro t.enc, c10, c11, ?_⟩
          simp only [Pt.step, hh, hy, if_true, Option.getD_some, et, Ru.enc]
        | false =>
          rw [hh] at eq
          obtain ⟨p, hp, p1, p2, _⟩ := num_place hh hy
          rw [hp] at rp
          simp only [encO_some] at rp
          walk_at "wp"
          rw [eq]
          walk_at "wp"
          rw [ei, rp]
          walk_at "wp"
          have pl := parts_len r row i
          obtain ⟨o, ho⟩ : ∃ o, (r.parts row i)[(p - 1).toNat]? = some o := ⟨_, List.getElem?_eq_getElem (by rw [pl]; rw [List.length_take] at p2; omega)⟩
          rw [at_map (by omega) ho]
          simp only [Pt.enc]
          walk_at "wp"
          refine e_lcM (acc.c.zip o.c) (fun p => .tup [.int p.1, .int p.2]) (fun p => .int (p.1 + p.2)) ?_
          walk_at "wp"
          rw [zipD_map]
          refine ⟨rfl, ?_, c5, .fro t.enc, .fro o.enc, c11, ?_⟩
          · rw [List.length_zip]; omega
          · rw [show Pt.step (r.parts row i) (row.take i) acc t = ⟨(acc.c.zip o.c).map fun p => p.1 + p.2, acc.o + o.o, acc.r + o.r⟩ by
              unfold Pt.step
              rw [if_neg (by rw [hh]; simp), hp, Option.getD_some, List.getD, ho]
              rfl]
            simp only [Pt.enc, Ru.enc, et, List.map_map]
            rfl
      · rintro s ⟨c5, c9, c10, c11, rfl⟩
        simp only [Ru.enc]
        walk_at "wp"
        have pl := parts_len r row i
        refine ⟨by omega, .fro (.int (1 + i)), c5, ?_⟩
        rw [show r.parts row (i + 1) = r.parts row i ++ [r.terms.foldl (Pt.step (r.parts row i) (row.take i)) ⟨List.replicate r.first.length 0, 1, 0⟩] by simp only [Ru.parts]; rw [if_neg (by omega)]]
        rw [List.take_length, List.map_append]
        exact ⟨_, _, _, _, _, _, rfl⟩
  · rintro s ⟨c4, c5, c6, c7, c8, c9, c10, c11, rfl⟩
    walk_at "wp"
    rw [show ((row.length : Int) + 1 - 1).toNat = row.length by omega]
end DL

set_option pp.deepTerms.threshold 6
/-! W8: roots_of, way_back, never_looked. -/
namespace DL
open PySem L2
/-- how the number at place i + 1 is made -/
def Ru.root (r : Ru) (row : List Int) (i : Nat) : Pt := if i < r.first.length then Pt.unit r.first.length i else r.terms.foldl (Pt.step (r.parts row i) (row.take i)) ⟨List.replicate r.first.length 0, 1, 0⟩
theorem root_get (r : Ru) (row : List Int) {i n : Nat} (h : i < n) : (r.parts row n)[i]? = some (r.root row i) := parts_get r row h
theorem root_take (r : Ru) (row : List Int) {i m : Nat} (h : i ≤ m) : r.root (row.take m) i = r.root row i := by
  unfold Ru.root
  rw [parts_take r row m i h, List.take_take, Nat.min_eq_left h]
local macro_rules | `(tactic| walk_at "wp") => `(tactic| try simp (disch := first | assumption | omega) only [↓DL.H_ok, ↓DL.H_bind, ↓DL.H_opt, ↓DL.optK_some, ↓DL.optK_ite, ↓DL.condK_true, ↓DL.condK_false, ↓DL.condK_dec, ↓DL.condK_not, ↓DL.varK_fro, ↓DL.varK_own, ↓DL.callR_ok, ↓DL.callR_exc, ↓DL.e_var, ↓DL.e_glob, ↓DL.e_int, ↓DL.e_bl, ↓DL.e_str, ↓DL.e_non, ↓DL.e_bin, ↓DL.e_neg, ↓DL.H_asBl, ↓DL.e_not, ↓DL.e_and, ↓DL.e_or, ↓DL.e_and1, ↓DL.e_or1, ↓DL.H_if, ↓DL.e_and2, ↓DL.e_or2, ↓DL.e_cmp, ↓DL.e_chain, ↓DL.e_isN, ↓DL.e_isB, ↓DL.e_ife, ↓DL.H_ite, ↓DL.e_tup, ↓DL.e_lst, ↓DL.e_dic0, ↓DL.e_fz0, ↓DL.e_fz, ↓DL.e_es0, ↓DL.e_es, ↓DL.e_ix, ↓DL.e_slice, ↓DL.e_o0, ↓DL.e_o, ↓DL.e_bi, ↓DL.e_isi, ↓DL.e_meth, ↓DL.e_call, ↓DL.e_revs, ↓DL.e_orT, ↓DL.e_setf, ↓DL.HO_out, ↓DL.x_nil, ↓DL.x_cons, ↓DL.HO_nx, ↓DL.HO_if, ↓DL.HO_ite, ↓DL.x_asg, ↓DL.x_expr, ↓DL.x_ret, ↓DL.x_ite, ↓DL.x_pass, ↓DL.x_brk, ↓DL.x_raise, ↓DL.x_par, ↓DL.x_asgT, ↓DL.x_append', ↓DL.x_extend', ↓DL.x_setix', ↓DL.s_seq, ↓DL.s_rng1, ↓DL.s_rng2, ↓DL.s_enum, ↓DL.s_zip, ↓DL.c_none, ↓DL.c_some, DL.seqL_lst, DL.seqL_tup, DL.enumL_lst, DL.zipL_lst, DL.zipL_tup, DL.rngD_ok, DL.len_rangeI, DL.stK_mk, DL.put_fro, DL.put_fre, DL.put_bor, DL.fz_fro, DL.fz_fre, DL.fz_bor, DL.set_mk, DL.wipe_nil, DL.wipe_cons, DL.bindT_nm, DL.bindT_tp, DL.frz_mk, DL.frzC_own, DL.frzC_fro, DL.fzs_nil, DL.fzs_cons, DL.add_int, DL.add_lst, DL.add_tup, DL.sub_int, DL.mul_int, DL.mul_lst, DL.mul_tup, DL.fdiv_int, DL.md_int, DL.lt_int, DL.le_int, DL.gt_int, DL.ge_int, DL.eq_any, DL.ne_any, DL.isin_any, DL.notin_any, DL.blOf_bl, DL.intOf_int, DL.len_lst, DL.len_tup, DL.len_scr, DL.ix_lst, DL.ix_tup, DL.ix_scr, DL.ix_dic, DL.eq_int, DL.eq_lints, DL.eq_lints_nil, DL.scr_eq_nil, DL.imm_int, DL.imm_bl, DL.imm_non, DL.imm_str, DL.imm_lst, DL.imm_tup, DL.imms_nil, DL.imms_cons, DL.imms_ints, DL.own_fro, DL.own_fre, DL.own_bor, DL.ownB_own, DL.ownB_fro, DL.clOf_fro, DL.clOf_fre, DL.clOf_bor, DL.isNon_non, DL.isNon_int, DL.isNon_tup, DL.isNon_lst, DL.isNon_str, DL.slice_lst, DL.slice_tup, DL.list_lst, DL.list_tup, DL.tuple_lst, DL.tuple_tup, DL.sum_lst, DL.sum_tup, DL.all_lst, DL.max_int, DL.min_int, DL.abs_int, DL.int_bl, DL.int_int, DL.intsOf_map, DL.blsOf_map, DL.truD_lst, DL.setD_len, DL.setD_srt, DL.sorted_lst, DL.sorted_dic, DL.get1_dic, DL.get2_dic, DL.count_lst, DL.recv_get, DL.recv_count, DL.recv_index, DL.keyOf_int, DL.keyOf_str, DL.appK_own, DL.extK_own, DL.setK_dic, DL.setK_lst, DL.isOwnL_own, DL.isOwn_own, DL.isi_ii, DL.isi_ib, DL.isi_tt, DL.isi_ss, DL.isi_ll, DL.isi_bi, DL.isi_bb, DL.isi_lt, DL.isi_tl, DL.at0, DL.at1, DL.at2, DL.last1, DL.last2, DL.last3, DL.at_ints, DL.encO_some, DL.encO_none, CRes.ok.injEq, D.bl.injEq, D.int.injEq, D.lst.injEq, D.tup.injEq, D.str.injEq, DL.ints_inj, Prod.mk.injEq, if_true, if_false, Bool.false_eq_true, Bool.true_eq_false, Bool.and_true, Bool.true_and, Bool.and_self, Bool.and_false, Bool.false_and, List.length_cons, List.length_nil, List.length_map, Nat.reduceAdd, Nat.reduceLeDiff, true_and, and_true, List.zip_cons_cons, List.zip_nil_right, List.foldl_cons, List.foldl_nil, bne_self_eq_false, Bool.bne_false, Bool.bne_true, Bool.not_false, Bool.not_true, Option.map_none, List.cons_append, List.nil_append, Nat.reduceLT, or_self, and_self, or_true, true_or, or_false, false_or, and_false, false_and, Int.cast_ofNat_Int, Int.reduceLT, Int.reduceLE, Int.reduceEq, Int.reduceNeg, Int.reduceAdd, Int.reduceSub, Int.reduceToNat, true_imp_iff, false_imp_iff, not_true_eq_false, not_false_eq_true, Bool.not_eq_true, Bool.not_eq_false, List.getElem?_cons_succ, List.getElem?_cons_zero, List.set_cons_zero, List.set_cons_succ, List.map_cons, List.map_nil, List.drop_zero, List.take_zero, DL.omap, DL.obind, eq_self, decide_true, decide_false, decide_eq_true_eq, decide_eq_false_iff_not, imp_false, Classical.not_not, reduceCtorEq, implies_true, DL.sq_at_at, DL.sq_at_of, DL.sq_at_back, DL.sq_at_rest, DL.sq_of_at, DL.sq_of_of, DL.sq_of_back, DL.sq_of_rest, DL.sq_back_at, DL.sq_back_of, DL.sq_back_back, DL.sq_back_rest, DL.sq_rest_at, DL.sq_rest_of, DL.sq_rest_back, DL.sq_rest_rest, DL.imm_ru, DL.imm_enc, DL.imm_encO, DL.imm_pt, DL.imms_enc, DL.run_pk, DL.run_look_rule, DL.run_look_many, DL.run_row, DL.run_numbers, DL.cut_takeI, DL.cut_dropI, DL.cut_bothI])
local macro_rules | `(tactic| walk_at "ws") => `(tactic| try simp (disch := first | assumption | omega) only [↓DL.H_ok, ↓DL.H_bind, ↓DL.H_opt, ↓DL.optK_some, ↓DL.optK_ite, ↓DL.condK_true, ↓DL.condK_false, ↓DL.condK_dec, ↓DL.condK_not, ↓DL.varK_fro, ↓DL.varK_own, ↓DL.callR_ok, ↓DL.callR_exc, ↓DL.e_var, ↓DL.e_glob, ↓DL.e_int, ↓DL.e_bl, ↓DL.e_str, ↓DL.e_non, ↓DL.e_bin, ↓DL.e_neg, ↓DL.H_asBl, ↓DL.e_not, ↓DL.e_and, ↓DL.e_or, ↓DL.e_and1, ↓DL.e_or1, ↓DL.H_if, ↓DL.e_and2, ↓DL.e_or2, ↓DL.e_cmp, ↓DL.e_chain, ↓DL.e_isN, ↓DL.e_isB, ↓DL.e_ife, ↓DL.H_ite, ↓DL.e_tup, ↓DL.e_lst, ↓DL.e_dic0, ↓DL.e_fz0, ↓DL.e_fz, ↓DL.e_es0, ↓DL.e_es, ↓DL.e_ix, ↓DL.e_slice, ↓DL.e_o0, ↓DL.e_o, ↓DL.e_bi, ↓DL.e_isi, ↓DL.e_meth, ↓DL.e_call, ↓DL.e_revs, ↓DL.e_orT, ↓DL.e_setf, ↓DL.HO_out, ↓DL.x_nil, ↓DL.x_cons, ↓DL.HO_nx, ↓DL.HO_if, ↓DL.HO_ite, ↓DL.x_asg, ↓DL.x_expr, ↓DL.x_ret, ↓DL.x_ite, ↓DL.x_pass, ↓DL.x_brk, ↓DL.x_raise, ↓DL.x_par, ↓DL.x_asgT, ↓DL.x_append', ↓DL.x_extend', ↓DL.x_setix', ↓DL.s_seq, ↓DL.s_rng1, ↓DL.s_rng2, ↓DL.s_enum, ↓DL.s_zip, ↓DL.c_none, ↓DL.c_some, DL.seqL_lst, DL.seqL_tup, DL.enumL_lst, DL.zipL_lst, DL.zipL_tup, DL.rngD_ok, DL.len_rangeI, DL.stK_mk, DL.put_fro, DL.put_fre, DL.put_bor, DL.fz_fro, DL.fz_fre, DL.fz_bor, DL.set_mk, DL.wipe_nil, DL.wipe_cons, DL.bindT_nm, DL.bindT_tp, DL.frz_mk, DL.frzC_own, DL.frzC_fro, DL.fzs_nil, DL.fzs_cons, DL.add_int, DL.add_lst, DL.add_tup, DL.sub_int, DL.mul_int, DL.mul_lst, DL.mul_tup, DL.fdiv_int, DL.md_int, DL.lt_int, DL.le_int, DL.gt_int, DL.ge_int, DL.eq_any, DL.ne_any, DL.isin_any, DL.notin_any, DL.blOf_bl, DL.intOf_int, DL.len_lst, DL.len_tup, DL.len_scr, DL.ix_lst, DL.ix_tup, DL.ix_scr, DL.ix_dic, DL.eq_int, DL.eq_lints, DL.eq_lints_nil, DL.scr_eq_nil, DL.imm_int, DL.imm_bl, DL.imm_non, DL.imm_str, DL.imm_lst, DL.imm_tup, DL.imms_nil, DL.imms_cons, DL.imms_ints, DL.own_fro, DL.own_fre, DL.own_bor, DL.ownB_own, DL.ownB_fro, DL.clOf_fro, DL.clOf_fre, DL.clOf_bor, DL.isNon_non, DL.isNon_int, DL.isNon_tup, DL.isNon_lst, DL.isNon_str, DL.slice_lst, DL.slice_tup, DL.list_lst, DL.list_tup, DL.tuple_lst, DL.tuple_tup, DL.sum_lst, DL.sum_tup, DL.all_lst, DL.max_int, DL.min_int, DL.abs_int, DL.int_bl, DL.int_int, DL.intsOf_map, DL.blsOf_map, DL.truD_lst, DL.setD_len, DL.setD_srt, DL.sorted_lst, DL.sorted_dic, DL.get1_dic, DL.get2_dic, DL.count_lst, DL.recv_get, DL.recv_count, DL.recv_index, DL.keyOf_int, DL.keyOf_str, DL.appK_own, DL.extK_own, DL.setK_dic, DL.setK_lst, DL.isOwnL_own, DL.isOwn_own, DL.isi_ii, DL.isi_ib, DL.isi_tt, DL.isi_ss, DL.isi_ll, DL.isi_bi, DL.isi_bb, DL.isi_lt, DL.isi_tl, DL.at0, DL.at1, DL.at2, DL.last1, DL.last2, DL.last3, DL.at_ints, DL.encO_some, DL.encO_none, CRes.ok.injEq, D.bl.injEq, D.int.injEq, D.lst.injEq, D.tup.injEq, D.str.injEq, DL.ints_inj, Prod.mk.injEq, if_true, if_false, Bool.false_eq_true, Bool.true_eq_false, Bool.and_true, Bool.true_and, Bool.and_self, Bool.and_false, Bool.false_and, List.length_cons, List.length_nil, List.length_map, Nat.reduceAdd, Nat.reduceLeDiff, true_and, and_true, List.zip_cons_cons, List.zip_nil_right, List.foldl_cons, List.foldl_nil, bne_self_eq_false, Bool.bne_false, Bool.bne_true, Bool.not_false, Bool.not_true, Option.map_none, List.cons_append, List.nil_append, Nat.reduceLT, or_self, and_self, or_true, true_or, or_false, false_or, and_false, false_and, Int.cast_ofNat_Int, Int.reduceLT, Int.reduceLE, Int.reduceEq, Int.reduceNeg, Int.reduceAdd, Int.reduceSub, Int.reduceToNat, true_imp_iff, false_imp_iff, not_true_eq_false, not_false_eq_true, Bool.not_eq_true, Bool.not_eq_false, List.getElem?_cons_succ, List.getElem?_cons_zero, List.set_cons_zero, List.set_cons_succ, List.map_cons, List.map_nil, List.drop_zero, List.take_zero, DL.omap, DL.obind, eq_self, decide_true, decide_false, decide_eq_true_eq, decide_eq_false_iff_not, imp_false, Classical.not_not, reduceCtorEq, implies_true, DL.sq_at_at, DL.sq_at_of, DL.sq_at_back, DL.sq_at_rest, DL.sq_of_at, DL.sq_of_of, DL.sq_of_back, DL.sq_of_rest, DL.sq_back_at, DL.sq_back_of, DL.sq_back_back, DL.sq_back_rest, DL.sq_rest_at, DL.sq_rest_of, DL.sq_rest_back, DL.sq_rest_rest, DL.imm_ru, DL.imm_enc, DL.imm_encO, DL.imm_pt, DL.imms_enc, DL.run_pk, DL.run_look_rule, DL.run_look_many, DL.run_row, DL.run_numbers, DL.cut_takeI, DL.cut_dropI, DL.cut_bothI, *])
local macro_rules | `(tactic| walk_at "wi") => `(tactic| try simp (disch := first | assumption | omega) only [↓DL.H_ok, ↓DL.H_bind, ↓DL.H_opt, ↓DL.optK_some, ↓DL.optK_ite, ↓DL.condK_true, ↓DL.condK_false, ↓DL.condK_dec, ↓DL.condK_not, ↓DL.varK_fro, ↓DL.varK_own, ↓DL.callR_ok, ↓DL.callR_exc, ↓DL.e_var, ↓DL.e_glob, ↓DL.e_int, ↓DL.e_bl, ↓DL.e_str, ↓DL.e_non, ↓DL.e_bin, ↓DL.e_neg, ↓DL.H_asBl, ↓DL.e_not, ↓DL.e_and, ↓DL.e_or, ↓DL.e_and1, ↓DL.e_or1, ↓DL.H_if, ↓DL.e_and2, ↓DL.e_or2, ↓DL.e_cmp, ↓DL.e_chain, ↓DL.e_isN, ↓DL.e_isB, ↓DL.H_ite, ↓DL.e_tup, ↓DL.e_lst, ↓DL.e_dic0, ↓DL.e_fz0, ↓DL.e_fz, ↓DL.e_es0, ↓DL.e_es, ↓DL.e_ix, ↓DL.e_slice, ↓DL.e_o0, ↓DL.e_o, ↓DL.e_bi, ↓DL.e_isi, ↓DL.e_meth, ↓DL.e_call, ↓DL.e_revs, ↓DL.e_orT, ↓DL.e_setf, ↓DL.HO_out, ↓DL.x_nil, ↓DL.x_cons, ↓DL.HO_nx, ↓DL.HO_if, ↓DL.HO_ite, ↓DL.x_asg, ↓DL.x_expr, ↓DL.x_ret, ↓DL.x_pass, ↓DL.x_brk, ↓DL.x_raise, ↓DL.x_par, ↓DL.x_asgT, ↓DL.x_append', ↓DL.x_extend', ↓DL.x_setix', ↓DL.s_seq, ↓DL.s_rng1, ↓DL.s_rng2, ↓DL.s_enum, ↓DL.s_zip, ↓DL.c_none, ↓DL.c_some, DL.seqL_lst, DL.seqL_tup, DL.enumL_lst, DL.zipL_lst, DL.zipL_tup, DL.rngD_ok, DL.len_rangeI, DL.stK_mk, DL.put_fro, DL.put_fre, DL.put_bor, DL.fz_fro, DL.fz_fre, DL.fz_bor, DL.set_mk, DL.wipe_nil, DL.wipe_cons, DL.bindT_nm, DL.bindT_tp, DL.frz_mk, DL.frzC_own, DL.frzC_fro, DL.fzs_nil, DL.fzs_cons, DL.add_int, DL.add_lst, DL.add_tup, DL.sub_int, DL.mul_int, DL.mul_lst, DL.mul_tup, DL.fdiv_int, DL.md_int, DL.lt_int, DL.le_int, DL.gt_int, DL.ge_int, DL.eq_any, DL.ne_any, DL.isin_any, DL.notin_any, DL.blOf_bl, DL.intOf_int, DL.len_lst, DL.len_tup, DL.len_scr, DL.ix_lst, DL.ix_tup, DL.ix_scr, DL.ix_dic, DL.eq_int, DL.eq_lints, DL.eq_lints_nil, DL.scr_eq_nil, DL.imm_int, DL.imm_bl, DL.imm_non, DL.imm_str, DL.imm_lst, DL.imm_tup, DL.imms_nil, DL.imms_cons, DL.imms_ints, DL.own_fro, DL.own_fre, DL.own_bor, DL.ownB_own, DL.ownB_fro, DL.clOf_fro, DL.clOf_fre, DL.clOf_bor, DL.isNon_non, DL.isNon_int, DL.isNon_tup, DL.isNon_lst, DL.isNon_str, DL.slice_lst, DL.slice_tup, DL.list_lst, DL.list_tup, DL.tuple_lst, DL.tuple_tup, DL.sum_lst, DL.sum_tup, DL.all_lst, DL.max_int, DL.min_int, DL.abs_int, DL.int_bl, DL.int_int, DL.intsOf_map, DL.blsOf_map, DL.truD_lst, DL.setD_len, DL.setD_srt, DL.sorted_lst, DL.sorted_dic, DL.get1_dic, DL.get2_dic, DL.count_lst, DL.recv_get, DL.recv_count, DL.recv_index, DL.keyOf_int, DL.keyOf_str, DL.appK_own, DL.extK_own, DL.setK_dic, DL.setK_lst, DL.isOwnL_own, DL.isOwn_own, DL.isi_ii, DL.isi_ib, DL.isi_tt, DL.isi_ss, DL.isi_ll, DL.isi_bi, DL.isi_bb, DL.isi_lt, DL.isi_tl, DL.at0, DL.at1, DL.at2, DL.last1, DL.last2, DL.last3, DL.at_ints, DL.encO_some, DL.encO_none, CRes.ok.injEq, D.bl.injEq, D.int.injEq, D.lst.injEq, D.tup.injEq, D.str.injEq, DL.ints_inj, Prod.mk.injEq, if_true, if_false, Bool.false_eq_true, Bool.true_eq_false, Bool.and_true, Bool.true_and, Bool.and_self, Bool.and_false, Bool.false_and, List.length_cons, List.length_nil, List.length_map, Nat.reduceAdd, Nat.reduceLeDiff, true_and, and_true, List.zip_cons_cons, List.zip_nil_right, List.foldl_cons, List.foldl_nil, bne_self_eq_false, Bool.bne_false, Bool.bne_true, Bool.not_false, Bool.not_true, Option.map_none, List.cons_append, List.nil_append, Nat.reduceLT, or_self, and_self, or_true, true_or, or_false, false_or, and_false, false_and, Int.cast_ofNat_Int, Int.reduceLT, Int.reduceLE, Int.reduceEq, Int.reduceNeg, Int.reduceAdd, Int.reduceSub, Int.reduceToNat, true_imp_iff, false_imp_iff, not_true_eq_false, not_false_eq_true, Bool.not_eq_true, Bool.not_eq_false, List.getElem?_cons_succ, List.getElem?_cons_zero, List.set_cons_zero, List.set_cons_succ, List.map_cons, List.map_nil, List.drop_zero, List.take_zero, DL.omap, DL.obind, eq_self, decide_true, decide_false, decide_eq_true_eq, decide_eq_false_iff_not, imp_false, Classical.not_not, reduceCtorEq, implies_true, DL.sq_at_at, DL.sq_at_of, DL.sq_at_back, DL.sq_at_rest, DL.sq_of_at, DL.sq_of_of, DL.sq_of_back, DL.sq_of_rest, DL.sq_back_at, DL.sq_back_of, DL.sq_back_back, DL.sq_back_rest, DL.sq_rest_at, DL.sq_rest_of, DL.sq_rest_back, DL.sq_rest_rest, DL.imm_ru, DL.imm_enc, DL.imm_encO, DL.imm_pt, DL.imms_enc, DL.run_pk, DL.run_look_rule, DL.run_look_many, DL.run_row, DL.run_numbers, DL.cut_takeI, DL.cut_dropI, DL.cut_bothI])
local macro_rules | `(tactic| walk_at "wj") => `(tactic| try simp (disch := first | assumption | omega) only [↓DL.H_ok, ↓DL.H_bind, ↓DL.H_opt, ↓DL.optK_some, ↓DL.optK_ite, ↓DL.condK_true, ↓DL.condK_false, ↓DL.condK_dec, ↓DL.condK_not, ↓DL.varK_fro, ↓DL.varK_own, ↓DL.callR_ok, ↓DL.callR_exc, ↓DL.e_var, ↓DL.e_glob, ↓DL.e_int, ↓DL.e_bl, ↓DL.e_str, ↓DL.e_non, ↓DL.e_bin, ↓DL.e_neg, ↓DL.H_asBl, ↓DL.e_not, ↓DL.e_and, ↓DL.e_or, ↓DL.e_and1, ↓DL.e_or1, ↓DL.H_if, ↓DL.e_and2, ↓DL.e_or2, ↓DL.e_cmp, ↓DL.e_chain, ↓DL.e_isN, ↓DL.e_isB, ↓DL.H_ite, ↓DL.e_tup, ↓DL.e_lst, ↓DL.e_dic0, ↓DL.e_fz0, ↓DL.e_fz, ↓DL.e_es0, ↓DL.e_es, ↓DL.e_ix, ↓DL.e_slice, ↓DL.e_o0, ↓DL.e_o, ↓DL.e_bi, ↓DL.e_isi, ↓DL.e_meth, ↓DL.e_call, ↓DL.e_revs, ↓DL.e_orT, ↓DL.e_setf, ↓DL.HO_out, ↓DL.x_nil, ↓DL.x_cons, ↓DL.HO_nx, ↓DL.HO_if, ↓DL.HO_ite, ↓DL.x_asg, ↓DL.x_expr, ↓DL.x_ret, ↓DL.x_pass, ↓DL.x_brk, ↓DL.x_raise, ↓DL.x_par, ↓DL.x_asgT, ↓DL.x_append', ↓DL.x_extend', ↓DL.x_setix', ↓DL.s_seq, ↓DL.s_rng1, ↓DL.s_rng2, ↓DL.s_enum, ↓DL.s_zip, ↓DL.c_none, ↓DL.c_some, DL.seqL_lst, DL.seqL_tup, DL.enumL_lst, DL.zipL_lst, DL.zipL_tup, DL.rngD_ok, DL.len_rangeI, DL.stK_mk, DL.put_fro, DL.put_fre, DL.put_bor, DL.fz_fro, DL.fz_fre, DL.fz_bor, DL.set_mk, DL.wipe_nil, DL.wipe_cons, DL.bindT_nm, DL.bindT_tp, DL.frz_mk, DL.frzC_own, DL.frzC_fro, DL.fzs_nil, DL.fzs_cons, DL.add_int, DL.add_lst, DL.add_tup, DL.sub_int, DL.mul_int, DL.mul_lst, DL.mul_tup, DL.fdiv_int, DL.md_int, DL.lt_int, DL.le_int, DL.gt_int, DL.ge_int, DL.eq_any, DL.ne_any, DL.isin_any, DL.notin_any, DL.blOf_bl, DL.intOf_int, DL.len_lst, DL.len_tup, DL.len_scr, DL.ix_lst, DL.ix_tup, DL.ix_scr, DL.ix_dic, DL.eq_int, DL.eq_lints, DL.eq_lints_nil, DL.scr_eq_nil, DL.imm_int, DL.imm_bl, DL.imm_non, DL.imm_str, DL.imm_lst, DL.imm_tup, DL.imms_nil, DL.imms_cons, DL.imms_ints, DL.own_fro, DL.own_fre, DL.own_bor, DL.ownB_own, DL.ownB_fro, DL.clOf_fro, DL.clOf_fre, DL.clOf_bor, DL.isNon_non, DL.isNon_int, DL.isNon_tup, DL.isNon_lst, DL.isNon_str, DL.slice_lst, DL.slice_tup, DL.list_lst, DL.list_tup, DL.tuple_lst, DL.tuple_tup, DL.sum_lst, DL.sum_tup, DL.all_lst, DL.max_int, DL.min_int, DL.abs_int, DL.int_bl, DL.int_int, DL.intsOf_map, DL.blsOf_map, DL.truD_lst, DL.setD_len, DL.setD_srt, DL.sorted_lst, DL.sorted_dic, DL.get1_dic, DL.get2_dic, DL.count_lst, DL.recv_get, DL.recv_count, DL.recv_index, DL.keyOf_int, DL.keyOf_str, DL.appK_own, DL.extK_own, DL.setK_dic, DL.setK_lst, DL.isOwnL_own, DL.isOwn_own, DL.isi_ii, DL.isi_ib, DL.isi_tt, DL.isi_ss, DL.isi_ll, DL.isi_bi, DL.isi_bb, DL.isi_lt, DL.isi_tl, DL.at0, DL.at1, DL.at2, DL.last1, DL.last2, DL.last3, DL.at_ints, DL.encO_some, DL.encO_none, CRes.ok.injEq, D.bl.injEq, D.int.injEq, D.lst.injEq, D.tup.injEq, D.str.injEq, DL.ints_inj, Prod.mk.injEq, if_true, if_false, Bool.false_eq_true, Bool.true_eq_false, Bool.and_true, Bool.true_and, Bool.and_self, Bool.and_false, Bool.false_and, List.length_cons, List.length_nil, List.length_map, Nat.reduceAdd, Nat.reduceLeDiff, true_and, and_true, List.zip_cons_cons, List.zip_nil_right, List.foldl_cons, List.foldl_nil, bne_self_eq_false, Bool.bne_false, Bool.bne_true, Bool.not_false, Bool.not_true, Option.map_none, List.cons_append, List.nil_append, Nat.reduceLT, or_self, and_self, or_true, true_or, or_false, false_or, and_false, false_and, Int.cast_ofNat_Int, Int.reduceLT, Int.reduceLE, Int.reduceEq, Int.reduceNeg, Int.reduceAdd, Int.reduceSub, Int.reduceToNat, true_imp_iff, false_imp_iff, not_true_eq_false, not_false_eq_true, Bool.not_eq_true, Bool.not_eq_false, List.getElem?_cons_succ, List.getElem?_cons_zero, List.set_cons_zero, List.set_cons_succ, List.map_cons, List.map_nil, List.drop_zero, List.take_zero, DL.omap, DL.obind, eq_self, decide_true, decide_false, decide_eq_true_eq, decide_eq_false_iff_not, imp_false, Classical.not_not, reduceCtorEq, implies_true, DL.sq_at_at, DL.sq_at_of, DL.sq_at_back, DL.sq_at_rest, DL.sq_of_at, DL.sq_of_of, DL.sq_of_back, DL.sq_of_rest, DL.sq_back_at, DL.sq_back_of, DL.sq_back_back, DL.sq_back_rest, DL.sq_rest_at, DL.sq_rest_of, DL.sq_rest_back, DL.sq_rest_rest, DL.imm_ru, DL.imm_enc, DL.imm_encO, DL.imm_pt, DL.imms_enc, DL.run_pk, DL.run_look_rule, DL.run_look_many, DL.run_row, DL.run_numbers, DL.cut_takeI, DL.cut_dropI, DL.cut_bothI, *])
theorem run_roots_of {q : Nat} {r : Ru} {p : Int} {w : List WObj} (hr : r.Ok) (M : Nat) (hM : p ≤ M) (hp : 1 ≤ p) (hp2 : p ≤ 200) (hL : p ≤ (r.row M).length) (hq : 12 ≤ q) :
    run T q kf_p_roots_of [r.enc, .int p] w = .ok (.tup [.tup ((r.root (r.row M) (p - 1).toNat).c.map .int), .int (r.root (r.row M) (p - 1).toNat).o, .int (r.root (r.row M) (p - 1).toNat).r]) false w := by
  obtain ⟨n, rfl⟩ : ∃ n, q = n + 1 := ⟨q - 1, by omega⟩
  refine run_w T_p_roots_of rfl [.fro r.enc, .fro (.int p), .un, .un, .un] rfl ?_
  unfold fd_p_roots_of
  have hl := row_full (r := r) (p := p.toNat) (M := M) (by omega) (by omega)
  have e := row_take r (show p.toNat ≤ M by omega)
  walk_at "wp"
  rw [run_number_at hr M hM hp hp2 hL (by omega)]
  walk_at "wp"
  rw [run_parts hr (by omega) (by omega) (by omega)]
  walk_at "wp"
  rw [at_map (x := r.root (r.row p.toNat) (p - 1).toNat) (by omega) (root_get r _ (by omega))]
  simp only [Pt.enc]
  walk_at "wp"
  rw [e, root_take r _ (by omega)]
/-- the places by which one comes back from i + 1, by a term -/
def wayM (r : Ru) (row : List Int) (t : Tm) : Nat → Int → List Int
  | 0, p => [p]
  | k + 1, p => if p ≤ r.first.length ∨ t.isRest = true then [p] else p :: wayM r row t k ((t.place (row.take (p - 1).toNat)).getD 0)
theorem tm_ix {t : Tm} : ∃ x, ixD t.enc (.int 0) = some (.str x) ∧ eqD (.str x) (.str "rest") = some t.isRest := by
  cases t with
  | «at» n => exact ⟨_, rfl, DL.sq_at_rest⟩
  | of u => exact ⟨_, rfl, DL.sq_of_rest⟩
  | back n u => exact ⟨_, rfl, DL.sq_back_rest⟩
  | rest n u => exact ⟨_, rfl, DL.sq_rest_rest⟩
theorem run_way_back {q : Nat} {r : Ru} {p k : Int} {w : List WObj} (hr : r.Ok) (M : Nat) (hM : p ≤ M) (hp : 1 ≤ p) (hp2 : p ≤ 200) (hL : p ≤ (r.row M).length) (hk : 0 ≤ k) {t : Tm} (ht : r.terms[k.toNat]? = some t) (hq : 12 ≤ q) :
    run T q kf_p_way_back [r.enc, .int p, .int k] w = .ok (.lst ((wayM r (r.row M) t p.toNat p).map .int)) true w := by
  obtain ⟨n, rfl⟩ : ∃ n, q = n + 1 := ⟨q - 1, by omega⟩
  refine run_w T_p_way_back rfl [.fro r.enc, .fro (.int p), .fro (.int k), .un, .un] rfl ?_
  unfold fd_p_way_back
  have hl := row_full (r := r) (p := p.toNat) (M := M) (by omega) (by omega)
  have e := row_take r (show p.toNat ≤ M by omega)
  have hf := hr.all
  have kt : k.toNat < r.terms.length := (List.getElem?_eq_some_iff.mp ht).1
  have htm : t ∈ r.terms := List.mem_of_getElem? ht
  walk_at "wp"
  rw [run_number_at hr M hM hp hp2 hL (by omega)]
  simp only [Ru.enc]
  walk_at "wp"
  rw [run_is_whole (by omega)]
  walk_at "wp"
  have hk2 : (0 ≤ k ∧ k ≤ (r.terms.length : Int) - 1) = True := by simp; omega
  rw [hk2]
  have er := run_row (n := n) (w := w) hr (many := p) (by omega) (by omega) (by omega)
  rw [e] at er
  simp only [Ru.enc] at er
  have tms := fun (i : Nat) (h1 : r.first.length ≤ i) (h2 : i < (r.row M).length) => row_term r h1 h2 htm
  generalize r.row M = row at *
  obtain ⟨x0, hx0, eq⟩ := tm_ix (t := t)
  walk_at "ws"
  refine x_whileT p.toNat (fun s0 m s => ∃ ws : List Int, ∃ c : Int, s = s0.set 4 (.own (.lst ((ws ++ [c]).map .int))) ∧ 1 ≤ c ∧ c ≤ p ∧ ws.length + m ≤ p.toNat ∧ c.toNat ≤ m ∧ wayM r row t p.toNat p = ws ++ wayM r row t m c) (by omega) ⟨[], p, rfl, hp, by omega, by simp, by omega, rfl⟩ ?_
  rintro m s ⟨ws, c, rfl, c1, c2, c3, c4, c5⟩
  walk_at "wp"
  rw [at_last (f := D.int) (xs := ws ++ [c]) (x := c) (by simp)]
  walk_at "wp"
  obtain ⟨m, rfl⟩ : ∃ m', m = m' + 1 := ⟨m - 1, by omega⟩
  have kx : ∃ x, atI (r.terms.map Tm.enc) k = some x ∧ x = t.enc := ⟨_, at_map hk ht, rfl⟩
  obtain ⟨x, kx1, kx2⟩ := kx
  simp only [wayM] at c5
  refine ⟨fun h => ?_, fun h => ?_⟩
  · rw [kx1]
    walk_at "wp"
    rw [kx2, hx0]
    walk_at "wp"
    rw [eq]
    have hn : ¬ c ≤ r.first.length := by omega
    cases hh : t.isRest with
    | true =>
      rw [hh, if_pos (.inr rfl)] at c5
      walk_at "wp"
      rw [c5]
    | false =>
      rw [hh, if_neg (by simp; omega)] at c5
      walk_at "wp"
      rw [kx1]
      walk_at "wp"
      rw [at_last (f := D.int) (xs := ws ++ [c]) (x := c) (by simp)]
      walk_at "wp"
      obtain ⟨y, hy⟩ := tms (c - 1).toNat (by omega) (by omega)
      obtain ⟨pl, hp1, hp2', hp3, _⟩ := num_place hh hy
      rw [List.length_take] at hp3
      have hd := hr.dep t htm
      have rp := run_pl (row := row.take (c - 1).toNat) (t := t) (m := n) (w := w) (by omega)
      have e2 : List.take (c - 1).toNat ((row.take p.toNat).map D.int) = (row.take (c - 1).toNat).map D.int := by rw [← List.map_take, List.take_take, Nat.min_eq_left (by omega)]
      rw [hp1, encO_some] at rp
      rw [e2, kx2, rp]
      walk_at "wp"
      refine ⟨by simp; omega, m, by omega, ws ++ [c], pl, by simp, by omega, by omega, by simp; omega, by omega, ?_⟩
      rw [c5, hp1, Option.getD_some, List.append_assoc]
      rfl
  · rw [if_pos (.inl (by omega))] at c5
    rw [c5]
end DL

set_option pp.deepTerms.threshold 6
/-! W10: the laws' own rows, by a book. -/
namespace DL
open PySem L2
/-- a row as a book: its numbers by their places -/
def bookD (row : List Int) : List (Key × D) := (row.zipIdx 1).map fun p => (Sum.inl (p.2 : Int), D.int p.1)
theorem book_nil : bookD [] = [] := rfl
theorem book_len (row : List Int) : (bookD row).length = row.length := by simp [bookD]
theorem zipIdx_get {α : Type} {l : List α} {k i : Nat} {p : α × Nat} (h : (l.zipIdx k)[i]? = some p) : l[i]? = some p.1 ∧ p.2 = k + i := by
  rw [List.getElem?_zipIdx] at h
  obtain ⟨y, hy, e⟩ := Option.map_eq_some_iff.mp h
  cases e
  exact ⟨hy, rfl⟩
theorem find_zip (p : Int) : ∀ (row : List Int) (k : Nat), getD' ((row.zipIdx k).map fun q => (Sum.inl (q.2 : Int), D.int q.1)) (.inl p) = (if (k : Int) ≤ p ∧ p < k + row.length then row[(p - k).toNat]? else none).map D.int
  | [], k => by
    simp only [List.zipIdx_nil, List.map_nil, getD', List.find?_nil, List.length_nil]
    rw [if_neg (by omega)]
    rfl
  | a :: row, k => by
    have ih := find_zip p row (k + 1)
    simp only [getD'] at ih ⊢
    rw [List.zipIdx_cons, List.map_cons, List.find?_cons]
    by_cases h : (k : Int) = p
    · subst h
      simp
      omega
    · rw [show decide ((Sum.inl (k : Int) : Key) = .inl p) = false from decide_eq_false fun z => h (Sum.inl.inj z)]
      simp only
      rw [ih]
      congr 1
      by_cases hp : (k : Int) ≤ p ∧ p < k + (a :: row).length
      · rw [if_pos hp, if_pos (by rw [List.length_cons] at hp; omega), show (p - (k : Int)).toNat = (p - ((k + 1 : Nat) : Int)).toNat + 1 by omega, List.getElem?_cons_succ]
      · rw [if_neg hp, if_neg (by rw [List.length_cons] at hp; omega)]
theorem book_get (row : List Int) (p : Int) : getD' (bookD row) (.inl p) = (here row p).map D.int := by
  unfold bookD
  rw [find_zip]
  unfold here
  congr 1
  by_cases h : 1 ≤ p ∧ p ≤ row.length
  · rw [if_pos h, if_pos (by omega)]
    rfl
  · rw [if_neg h, if_neg (by omega)]
theorem book_getD (row : List Int) (p : Int) : (getD' (bookD row) (.inl p)).getD .non = encO (here row p) := by
  rw [book_get]
  cases here row p <;> rfl
theorem book_put (row : List Int) (x : Int) {p : Int} (hp : p = row.length + 1) : putD (bookD row) (.inl p) (.int x) = bookD (row ++ [x]) := by
  subst hp
  unfold putD
  rw [if_neg]
  · simp [bookD, List.zipIdx_append]
    omega
  · rw [DL.getD_any, book_get]
    unfold here
    rw [if_neg (by omega)]
    simp
theorem keysI_book (row : List Int) : keysI (bookD row) = some (rangeI 1 (row.length + 1)) := by
  have gen : ∀ (row : List Int) (k : Nat), keysI ((row.zipIdx k).map fun q => (Sum.inl (q.2 : Int), D.int q.1)) = some ((List.range row.length).map fun (i : Nat) => (k : Int) + i) := by
    intro row
    induction row with
    | nil => intro k; rfl
    | cons a row ih =>
      intro k
      rw [List.zipIdx_cons, List.map_cons]
      show (keysI _).map _ = _
      rw [ih (k + 1), Option.map_some, List.length_cons, List.range_succ_eq_map, List.map_cons, List.map_map]
      congr 2
      · simp
        intro i _
        omega
  have := gen row 1
  unfold bookD rangeI
  rw [this, show ((row.length : Int) + 1 - 1).toNat = row.length by omega]
  rfl
theorem sort_range (a b : Int) : sortI (rangeI a b) = rangeI a b := by
  refine (sortI_one (List.Perm.refl _) ?_).symm
  unfold rangeI
  rw [List.pairwise_map]
  exact List.Pairwise.imp (fun h => by omega) List.pairwise_lt_range
local macro_rules | `(tactic| walk_at "wp") => `(tactic| try simp (disch := first | assumption | omega) only [↓DL.H_ok, ↓DL.H_bind, ↓DL.H_opt, ↓DL.optK_some, ↓DL.optK_ite, ↓DL.condK_true, ↓DL.condK_false, ↓DL.condK_dec, ↓DL.condK_not, ↓DL.varK_fro, ↓DL.varK_own, ↓DL.callR_ok, ↓DL.callR_exc, ↓DL.e_var, ↓DL.e_glob, ↓DL.e_int, ↓DL.e_bl, ↓DL.e_str, ↓DL.e_non, ↓DL.e_bin, ↓DL.e_neg, ↓DL.H_asBl, ↓DL.e_not, ↓DL.e_and, ↓DL.e_or, ↓DL.e_and1, ↓DL.e_or1, ↓DL.H_if, ↓DL.e_and2, ↓DL.e_or2, ↓DL.e_cmp, ↓DL.e_chain, ↓DL.e_isN, ↓DL.e_isB, ↓DL.e_ife, ↓DL.H_ite, ↓DL.e_tup, ↓DL.e_lst, ↓DL.e_dic0, ↓DL.e_fz0, ↓DL.e_fz, ↓DL.e_es0, ↓DL.e_es, ↓DL.e_ix, ↓DL.e_slice, ↓DL.e_o0, ↓DL.e_o, ↓DL.e_bi, ↓DL.e_isi, ↓DL.e_meth, ↓DL.e_call, ↓DL.e_revs, ↓DL.e_orT, ↓DL.e_setf, ↓DL.HO_out, ↓DL.x_nil, ↓DL.x_cons, ↓DL.HO_nx, ↓DL.HO_if, ↓DL.HO_ite, ↓DL.x_asg, ↓DL.x_expr, ↓DL.x_ret, ↓DL.x_ite, ↓DL.x_pass, ↓DL.x_brk, ↓DL.x_raise, ↓DL.x_par, ↓DL.x_asgT, ↓DL.x_append', ↓DL.x_extend', ↓DL.x_setix', ↓DL.s_seq, ↓DL.s_rng1, ↓DL.s_rng2, ↓DL.s_enum, ↓DL.s_zip, ↓DL.c_none, ↓DL.c_some, DL.seqL_lst, DL.seqL_tup, DL.enumL_lst, DL.zipL_lst, DL.zipL_tup, DL.rngD_ok, DL.len_rangeI, DL.stK_mk, DL.put_fro, DL.put_fre, DL.put_bor, DL.fz_fro, DL.fz_fre, DL.fz_bor, DL.set_mk, DL.wipe_nil, DL.wipe_cons, DL.bindT_nm, DL.bindT_tp, DL.frz_mk, DL.frzC_own, DL.frzC_fro, DL.fzs_nil, DL.fzs_cons, DL.add_int, DL.add_lst, DL.add_tup, DL.sub_int, DL.mul_int, DL.mul_lst, DL.mul_tup, DL.fdiv_int, DL.md_int, DL.lt_int, DL.le_int, DL.gt_int, DL.ge_int, DL.eq_any, DL.ne_any, DL.isin_any, DL.notin_any, DL.blOf_bl, DL.intOf_int, DL.len_lst, DL.len_tup, DL.len_scr, DL.ix_lst, DL.ix_tup, DL.ix_scr, DL.ix_dic, DL.eq_int, DL.eq_lints, DL.eq_lints_nil, DL.scr_eq_nil, DL.imm_int, DL.imm_bl, DL.imm_non, DL.imm_str, DL.imm_lst, DL.imm_tup, DL.imms_nil, DL.imms_cons, DL.imms_ints, DL.own_fro, DL.own_fre, DL.own_bor, DL.ownB_own, DL.ownB_fro, DL.clOf_fro, DL.clOf_fre, DL.clOf_bor, DL.isNon_non, DL.isNon_int, DL.isNon_tup, DL.isNon_lst, DL.isNon_str, DL.slice_lst, DL.slice_tup, DL.list_lst, DL.list_tup, DL.tuple_lst, DL.tuple_tup, DL.sum_lst, DL.sum_tup, DL.all_lst, DL.max_int, DL.min_int, DL.abs_int, DL.int_bl, DL.int_int, DL.intsOf_map, DL.blsOf_map, DL.truD_lst, DL.setD_len, DL.setD_srt, DL.sorted_lst, DL.sorted_dic, DL.get1_dic, DL.get2_dic, DL.count_lst, DL.recv_get, DL.recv_count, DL.recv_index, DL.keyOf_int, DL.keyOf_str, DL.appK_own, DL.extK_own, DL.setK_dic, DL.setK_lst, DL.isOwnL_own, DL.isOwn_own, DL.isi_ii, DL.isi_ib, DL.isi_tt, DL.isi_ss, DL.isi_ll, DL.isi_bi, DL.isi_bb, DL.isi_lt, DL.isi_tl, DL.at0, DL.at1, DL.at2, DL.last1, DL.last2, DL.last3, DL.at_ints, DL.encO_some, DL.encO_none, CRes.ok.injEq, D.bl.injEq, D.int.injEq, D.lst.injEq, D.tup.injEq, D.str.injEq, DL.ints_inj, Prod.mk.injEq, if_true, if_false, Bool.false_eq_true, Bool.true_eq_false, Bool.and_true, Bool.true_and, Bool.and_self, Bool.and_false, Bool.false_and, List.length_cons, List.length_nil, List.length_map, Nat.reduceAdd, Nat.reduceLeDiff, true_and, and_true, List.zip_cons_cons, List.zip_nil_right, List.foldl_cons, List.foldl_nil, bne_self_eq_false, Bool.bne_false, Bool.bne_true, Bool.not_false, Bool.not_true, Option.map_none, List.cons_append, List.nil_append, Nat.reduceLT, or_self, and_self, or_true, true_or, or_false, false_or, and_false, false_and, Int.cast_ofNat_Int, Int.reduceLT, Int.reduceLE, Int.reduceEq, Int.reduceNeg, Int.reduceAdd, Int.reduceSub, Int.reduceToNat, true_imp_iff, false_imp_iff, not_true_eq_false, not_false_eq_true, Bool.not_eq_true, Bool.not_eq_false, List.getElem?_cons_succ, List.getElem?_cons_zero, List.set_cons_zero, List.set_cons_succ, List.map_cons, List.map_nil, List.drop_zero, List.take_zero, DL.omap, DL.obind, eq_self, decide_true, decide_false, decide_eq_true_eq, decide_eq_false_iff_not, imp_false, Classical.not_not, reduceCtorEq, implies_true, DL.sq_at_at, DL.sq_at_of, DL.sq_at_back, DL.sq_at_rest, DL.sq_of_at, DL.sq_of_of, DL.sq_of_back, DL.sq_of_rest, DL.sq_back_at, DL.sq_back_of, DL.sq_back_back, DL.sq_back_rest, DL.sq_rest_at, DL.sq_rest_of, DL.sq_rest_back, DL.sq_rest_rest, DL.imm_ru, DL.imm_enc, DL.imm_encO, DL.imms_enc, DL.run_pk, DL.book_getD, DL.book_len, DL.none_in, DL.intsOf_encO, DL.keysI_book, DL.sort_range])
local macro_rules | `(tactic| walk_at "ws") => `(tactic| try simp (disch := first | assumption | omega) only [↓DL.H_ok, ↓DL.H_bind, ↓DL.H_opt, ↓DL.optK_some, ↓DL.optK_ite, ↓DL.condK_true, ↓DL.condK_false, ↓DL.condK_dec, ↓DL.condK_not, ↓DL.varK_fro, ↓DL.varK_own, ↓DL.callR_ok, ↓DL.callR_exc, ↓DL.e_var, ↓DL.e_glob, ↓DL.e_int, ↓DL.e_bl, ↓DL.e_str, ↓DL.e_non, ↓DL.e_bin, ↓DL.e_neg, ↓DL.H_asBl, ↓DL.e_not, ↓DL.e_and, ↓DL.e_or, ↓DL.e_and1, ↓DL.e_or1, ↓DL.H_if, ↓DL.e_and2, ↓DL.e_or2, ↓DL.e_cmp, ↓DL.e_chain, ↓DL.e_isN, ↓DL.e_isB, ↓DL.e_ife, ↓DL.H_ite, ↓DL.e_tup, ↓DL.e_lst, ↓DL.e_dic0, ↓DL.e_fz0, ↓DL.e_fz, ↓DL.e_es0, ↓DL.e_es, ↓DL.e_ix, ↓DL.e_slice, ↓DL.e_o0, ↓DL.e_o, ↓DL.e_bi, ↓DL.e_isi, ↓DL.e_meth, ↓DL.e_call, ↓DL.e_revs, ↓DL.e_orT, ↓DL.e_setf, ↓DL.HO_out, ↓DL.x_nil, ↓DL.x_cons, ↓DL.HO_nx, ↓DL.HO_if, ↓DL.HO_ite, ↓DL.x_asg, ↓DL.x_expr, ↓DL.x_ret, ↓DL.x_ite, ↓DL.x_pass, ↓DL.x_brk, ↓DL.x_raise, ↓DL.x_par, ↓DL.x_asgT, ↓DL.x_append', ↓DL.x_extend', ↓DL.x_setix', ↓DL.s_seq, ↓DL.s_rng1, ↓DL.s_rng2, ↓DL.s_enum, ↓DL.s_zip, ↓DL.c_none, ↓DL.c_some, DL.seqL_lst, DL.seqL_tup, DL.enumL_lst, DL.zipL_lst, DL.zipL_tup, DL.rngD_ok, DL.len_rangeI, DL.stK_mk, DL.put_fro, DL.put_fre, DL.put_bor, DL.fz_fro, DL.fz_fre, DL.fz_bor, DL.set_mk, DL.wipe_nil, DL.wipe_cons, DL.bindT_nm, DL.bindT_tp, DL.frz_mk, DL.frzC_own, DL.frzC_fro, DL.fzs_nil, DL.fzs_cons, DL.add_int, DL.add_lst, DL.add_tup, DL.sub_int, DL.mul_int, DL.mul_lst, DL.mul_tup, DL.fdiv_int, DL.md_int, DL.lt_int, DL.le_int, DL.gt_int, DL.ge_int, DL.eq_any, DL.ne_any, DL.isin_any, DL.notin_any, DL.blOf_bl, DL.intOf_int, DL.len_lst, DL.len_tup, DL.len_scr, DL.ix_lst, DL.ix_tup, DL.ix_scr, DL.ix_dic, DL.eq_int, DL.eq_lints, DL.eq_lints_nil, DL.scr_eq_nil, DL.imm_int, DL.imm_bl, DL.imm_non, DL.imm_str, DL.imm_lst, DL.imm_tup, DL.imms_nil, DL.imms_cons, DL.imms_ints, DL.own_fro, DL.own_fre, DL.own_bor, DL.ownB_own, DL.ownB_fro, DL.clOf_fro, DL.clOf_fre, DL.clOf_bor, DL.isNon_non, DL.isNon_int, DL.isNon_tup, DL.isNon_lst, DL.isNon_str, DL.slice_lst, DL.slice_tup, DL.list_lst, DL.list_tup, DL.tuple_lst, DL.tuple_tup, DL.sum_lst, DL.sum_tup, DL.all_lst, DL.max_int, DL.min_int, DL.abs_int, DL.int_bl, DL.int_int, DL.intsOf_map, DL.blsOf_map, DL.truD_lst, DL.setD_len, DL.setD_srt, DL.sorted_lst, DL.sorted_dic, DL.get1_dic, DL.get2_dic, DL.count_lst, DL.recv_get, DL.recv_count, DL.recv_index, DL.keyOf_int, DL.keyOf_str, DL.appK_own, DL.extK_own, DL.setK_dic, DL.setK_lst, DL.isOwnL_own, DL.isOwn_own, DL.isi_ii, DL.isi_ib, DL.isi_tt, DL.isi_ss, DL.isi_ll, DL.isi_bi, DL.isi_bb, DL.isi_lt, DL.isi_tl, DL.at0, DL.at1, DL.at2, DL.last1, DL.last2, DL.last3, DL.at_ints, DL.encO_some, DL.encO_none, CRes.ok.injEq, D.bl.injEq, D.int.injEq, D.lst.injEq, D.tup.injEq, D.str.injEq, DL.ints_inj, Prod.mk.injEq, if_true, if_false, Bool.false_eq_true, Bool.true_eq_false, Bool.and_true, Bool.true_and, Bool.and_self, Bool.and_false, Bool.false_and, List.length_cons, List.length_nil, List.length_map, Nat.reduceAdd, Nat.reduceLeDiff, true_and, and_true, List.zip_cons_cons, List.zip_nil_right, List.foldl_cons, List.foldl_nil, bne_self_eq_false, Bool.bne_false, Bool.bne_true, Bool.not_false, Bool.not_true, Option.map_none, List.cons_append, List.nil_append, Nat.reduceLT, or_self, and_self, or_true, true_or, or_false, false_or, and_false, false_and, Int.cast_ofNat_Int, Int.reduceLT, Int.reduceLE, Int.reduceEq, Int.reduceNeg, Int.reduceAdd, Int.reduceSub, Int.reduceToNat, true_imp_iff, false_imp_iff, not_true_eq_false, not_false_eq_true, Bool.not_eq_true, Bool.not_eq_false, List.getElem?_cons_succ, List.getElem?_cons_zero, List.set_cons_zero, List.set_cons_succ, List.map_cons, List.map_nil, List.drop_zero, List.take_zero, DL.omap, DL.obind, eq_self, decide_true, decide_false, decide_eq_true_eq, decide_eq_false_iff_not, imp_false, Classical.not_not, reduceCtorEq, implies_true, DL.sq_at_at, DL.sq_at_of, DL.sq_at_back, DL.sq_at_rest, DL.sq_of_at, DL.sq_of_of, DL.sq_of_back, DL.sq_of_rest, DL.sq_back_at, DL.sq_back_of, DL.sq_back_back, DL.sq_back_rest, DL.sq_rest_at, DL.sq_rest_of, DL.sq_rest_back, DL.sq_rest_rest, DL.imm_ru, DL.imm_enc, DL.imm_encO, DL.imms_enc, DL.run_pk, DL.book_getD, DL.book_len, DL.none_in, DL.intsOf_encO, DL.keysI_book, DL.sort_range, *])
local macro_rules | `(tactic| walk_at "wi") => `(tactic| try simp (disch := first | assumption | omega) only [↓DL.H_ok, ↓DL.H_bind, ↓DL.H_opt, ↓DL.optK_some, ↓DL.optK_ite, ↓DL.condK_true, ↓DL.condK_false, ↓DL.condK_dec, ↓DL.condK_not, ↓DL.varK_fro, ↓DL.varK_own, ↓DL.callR_ok, ↓DL.callR_exc, ↓DL.e_var, ↓DL.e_glob, ↓DL.e_int, ↓DL.e_bl, ↓DL.e_str, ↓DL.e_non, ↓DL.e_bin, ↓DL.e_neg, ↓DL.H_asBl, ↓DL.e_not, ↓DL.e_and, ↓DL.e_or, ↓DL.e_and1, ↓DL.e_or1, ↓DL.H_if, ↓DL.e_and2, ↓DL.e_or2, ↓DL.e_cmp, ↓DL.e_chain, ↓DL.e_isN, ↓DL.e_isB, ↓DL.H_ite, ↓DL.e_tup, ↓DL.e_lst, ↓DL.e_dic0, ↓DL.e_fz0, ↓DL.e_fz, ↓DL.e_es0, ↓DL.e_es, ↓DL.e_ix, ↓DL.e_slice, ↓DL.e_o0, ↓DL.e_o, ↓DL.e_bi, ↓DL.e_isi, ↓DL.e_meth, ↓DL.e_call, ↓DL.e_revs, ↓DL.e_orT, ↓DL.e_setf, ↓DL.HO_out, ↓DL.x_nil, ↓DL.x_cons, ↓DL.HO_nx, ↓DL.HO_if, ↓DL.HO_ite, ↓DL.x_asg, ↓DL.x_expr, ↓DL.x_ret, ↓DL.x_pass, ↓DL.x_brk, ↓DL.x_raise, ↓DL.x_par, ↓DL.x_asgT, ↓DL.x_append', ↓DL.x_extend', ↓DL.x_setix', ↓DL.s_seq, ↓DL.s_rng1, ↓DL.s_rng2, ↓DL.s_enum, ↓DL.s_zip, ↓DL.c_none, ↓DL.c_some, DL.seqL_lst, DL.seqL_tup, DL.enumL_lst, DL.zipL_lst, DL.zipL_tup, DL.rngD_ok, DL.len_rangeI, DL.stK_mk, DL.put_fro, DL.put_fre, DL.put_bor, DL.fz_fro, DL.fz_fre, DL.fz_bor, DL.set_mk, DL.wipe_nil, DL.wipe_cons, DL.bindT_nm, DL.bindT_tp, DL.frz_mk, DL.frzC_own, DL.frzC_fro, DL.fzs_nil, DL.fzs_cons, DL.add_int, DL.add_lst, DL.add_tup, DL.sub_int, DL.mul_int, DL.mul_lst, DL.mul_tup, DL.fdiv_int, DL.md_int, DL.lt_int, DL.le_int, DL.gt_int, DL.ge_int, DL.eq_any, DL.ne_any, DL.isin_any, DL.notin_any, DL.blOf_bl, DL.intOf_int, DL.len_lst, DL.len_tup, DL.len_scr, DL.ix_lst, DL.ix_tup, DL.ix_scr, DL.ix_dic, DL.eq_int, DL.eq_lints, DL.eq_lints_nil, DL.scr_eq_nil, DL.imm_int, DL.imm_bl, DL.imm_non, DL.imm_str, DL.imm_lst, DL.imm_tup, DL.imms_nil, DL.imms_cons, DL.imms_ints, DL.own_fro, DL.own_fre, DL.own_bor, DL.ownB_own, DL.ownB_fro, DL.clOf_fro, DL.clOf_fre, DL.clOf_bor, DL.isNon_non, DL.isNon_int, DL.isNon_tup, DL.isNon_lst, DL.isNon_str, DL.slice_lst, DL.slice_tup, DL.list_lst, DL.list_tup, DL.tuple_lst, DL.tuple_tup, DL.sum_lst, DL.sum_tup, DL.all_lst, DL.max_int, DL.min_int, DL.abs_int, DL.int_bl, DL.int_int, DL.intsOf_map, DL.blsOf_map, DL.truD_lst, DL.setD_len, DL.setD_srt, DL.sorted_lst, DL.sorted_dic, DL.get1_dic, DL.get2_dic, DL.count_lst, DL.recv_get, DL.recv_count, DL.recv_index, DL.keyOf_int, DL.keyOf_str, DL.appK_own, DL.extK_own, DL.setK_dic, DL.setK_lst, DL.isOwnL_own, DL.isOwn_own, DL.isi_ii, DL.isi_ib, DL.isi_tt, DL.isi_ss, DL.isi_ll, DL.isi_bi, DL.isi_bb, DL.isi_lt, DL.isi_tl, DL.at0, DL.at1, DL.at2, DL.last1, DL.last2, DL.last3, DL.at_ints, DL.encO_some, DL.encO_none, CRes.ok.injEq, D.bl.injEq, D.int.injEq, D.lst.injEq, D.tup.injEq, D.str.injEq, DL.ints_inj, Prod.mk.injEq, if_true, if_false, Bool.false_eq_true, Bool.true_eq_false, Bool.and_true, Bool.true_and, Bool.and_self, Bool.and_false, Bool.false_and, List.length_cons, List.length_nil, List.length_map, Nat.reduceAdd, Nat.reduceLeDiff, true_and, and_true, List.zip_cons_cons, List.zip_nil_right, List.foldl_cons, List.foldl_nil, bne_self_eq_false, Bool.bne_false, Bool.bne_true, Bool.not_false, Bool.not_true, Option.map_none, List.cons_append, List.nil_append, Nat.reduceLT, or_self, and_self, or_true, true_or, or_false, false_or, and_false, false_and, Int.cast_ofNat_Int, Int.reduceLT, Int.reduceLE, Int.reduceEq, Int.reduceNeg, Int.reduceAdd, Int.reduceSub, Int.reduceToNat, true_imp_iff, false_imp_iff, not_true_eq_false, not_false_eq_true, Bool.not_eq_true, Bool.not_eq_false, List.getElem?_cons_succ, List.getElem?_cons_zero, List.set_cons_zero, List.set_cons_succ, List.map_cons, List.map_nil, List.drop_zero, List.take_zero, DL.omap, DL.obind, eq_self, decide_true, decide_false, decide_eq_true_eq, decide_eq_false_iff_not, imp_false, Classical.not_not, reduceCtorEq, implies_true, DL.sq_at_at, DL.sq_at_of, DL.sq_at_back, DL.sq_at_rest, DL.sq_of_at, DL.sq_of_of, DL.sq_of_back, DL.sq_of_rest, DL.sq_back_at, DL.sq_back_of, DL.sq_back_back, DL.sq_back_rest, DL.sq_rest_at, DL.sq_rest_of, DL.sq_rest_back, DL.sq_rest_rest, DL.imm_ru, DL.imm_enc, DL.imm_encO, DL.imms_enc, DL.run_pk, DL.book_getD, DL.book_len, DL.none_in, DL.intsOf_encO, DL.keysI_book, DL.sort_range])
local macro_rules | `(tactic| walk_at "wj") => `(tactic| try simp (disch := first | assumption | omega) only [↓DL.H_ok, ↓DL.H_bind, ↓DL.H_opt, ↓DL.optK_some, ↓DL.optK_ite, ↓DL.condK_true, ↓DL.condK_false, ↓DL.condK_dec, ↓DL.condK_not, ↓DL.varK_fro, ↓DL.varK_own, ↓DL.callR_ok, ↓DL.callR_exc, ↓DL.e_var, ↓DL.e_glob, ↓DL.e_int, ↓DL.e_bl, ↓DL.e_str, ↓DL.e_non, ↓DL.e_bin, ↓DL.e_neg, ↓DL.H_asBl, ↓DL.e_not, ↓DL.e_and, ↓DL.e_or, ↓DL.e_and1, ↓DL.e_or1, ↓DL.H_if, ↓DL.e_and2, ↓DL.e_or2, ↓DL.e_cmp, ↓DL.e_chain, ↓DL.e_isN, ↓DL.e_isB, ↓DL.H_ite, ↓DL.e_tup, ↓DL.e_lst, ↓DL.e_dic0, ↓DL.e_fz0, ↓DL.e_fz, ↓DL.e_es0, ↓DL.e_es, ↓DL.e_ix, ↓DL.e_slice, ↓DL.e_o0, ↓DL.e_o, ↓DL.e_bi, ↓DL.e_isi, ↓DL.e_meth, ↓DL.e_call, ↓DL.e_revs, ↓DL.e_orT, ↓DL.e_setf, ↓DL.HO_out, ↓DL.x_nil, ↓DL.x_cons, ↓DL.HO_nx, ↓DL.HO_if, ↓DL.HO_ite, ↓DL.x_asg, ↓DL.x_expr, ↓DL.x_ret, ↓DL.x_pass, ↓DL.x_brk, ↓DL.x_raise, ↓DL.x_par, ↓DL.x_asgT, ↓DL.x_append', ↓DL.x_extend', ↓DL.x_setix', ↓DL.s_seq, ↓DL.s_rng1, ↓DL.s_rng2, ↓DL.s_enum, ↓DL.s_zip, ↓DL.c_none, ↓DL.c_some, DL.seqL_lst, DL.seqL_tup, DL.enumL_lst, DL.zipL_lst, DL.zipL_tup, DL.rngD_ok, DL.len_rangeI, DL.stK_mk, DL.put_fro, DL.put_fre, DL.put_bor, DL.fz_fro, DL.fz_fre, DL.fz_bor, DL.set_mk, DL.wipe_nil, DL.wipe_cons, DL.bindT_nm, DL.bindT_tp, DL.frz_mk, DL.frzC_own, DL.frzC_fro, DL.fzs_nil, DL.fzs_cons, DL.add_int, DL.add_lst, DL.add_tup, DL.sub_int, DL.mul_int, DL.mul_lst, DL.mul_tup, DL.fdiv_int, DL.md_int, DL.lt_int, DL.le_int, DL.gt_int, DL.ge_int, DL.eq_any, DL.ne_any, DL.isin_any, DL.notin_any, DL.blOf_bl, DL.intOf_int, DL.len_lst, DL.len_tup, DL.len_scr, DL.ix_lst, DL.ix_tup, DL.ix_scr, DL.ix_dic, DL.eq_int, DL.eq_lints, DL.eq_lints_nil, DL.scr_eq_nil, DL.imm_int, DL.imm_bl, DL.imm_non, DL.imm_str, DL.imm_lst, DL.imm_tup, DL.imms_nil, DL.imms_cons, DL.imms_ints, DL.own_fro, DL.own_fre, DL.own_bor, DL.ownB_own, DL.ownB_fro, DL.clOf_fro, DL.clOf_fre, DL.clOf_bor, DL.isNon_non, DL.isNon_int, DL.isNon_tup, DL.isNon_lst, DL.isNon_str, DL.slice_lst, DL.slice_tup, DL.list_lst, DL.list_tup, DL.tuple_lst, DL.tuple_tup, DL.sum_lst, DL.sum_tup, DL.all_lst, DL.max_int, DL.min_int, DL.abs_int, DL.int_bl, DL.int_int, DL.intsOf_map, DL.blsOf_map, DL.truD_lst, DL.setD_len, DL.setD_srt, DL.sorted_lst, DL.sorted_dic, DL.get1_dic, DL.get2_dic, DL.count_lst, DL.recv_get, DL.recv_count, DL.recv_index, DL.keyOf_int, DL.keyOf_str, DL.appK_own, DL.extK_own, DL.setK_dic, DL.setK_lst, DL.isOwnL_own, DL.isOwn_own, DL.isi_ii, DL.isi_ib, DL.isi_tt, DL.isi_ss, DL.isi_ll, DL.isi_bi, DL.isi_bb, DL.isi_lt, DL.isi_tl, DL.at0, DL.at1, DL.at2, DL.last1, DL.last2, DL.last3, DL.at_ints, DL.encO_some, DL.encO_none, CRes.ok.injEq, D.bl.injEq, D.int.injEq, D.lst.injEq, D.tup.injEq, D.str.injEq, DL.ints_inj, Prod.mk.injEq, if_true, if_false, Bool.false_eq_true, Bool.true_eq_false, Bool.and_true, Bool.true_and, Bool.and_self, Bool.and_false, Bool.false_and, List.length_cons, List.length_nil, List.length_map, Nat.reduceAdd, Nat.reduceLeDiff, true_and, and_true, List.zip_cons_cons, List.zip_nil_right, List.foldl_cons, List.foldl_nil, bne_self_eq_false, Bool.bne_false, Bool.bne_true, Bool.not_false, Bool.not_true, Option.map_none, List.cons_append, List.nil_append, Nat.reduceLT, or_self, and_self, or_true, true_or, or_false, false_or, and_false, false_and, Int.cast_ofNat_Int, Int.reduceLT, Int.reduceLE, Int.reduceEq, Int.reduceNeg, Int.reduceAdd, Int.reduceSub, Int.reduceToNat, true_imp_iff, false_imp_iff, not_true_eq_false, not_false_eq_true, Bool.not_eq_true, Bool.not_eq_false, List.getElem?_cons_succ, List.getElem?_cons_zero, List.set_cons_zero, List.set_cons_succ, List.map_cons, List.map_nil, List.drop_zero, List.take_zero, DL.omap, DL.obind, eq_self, decide_true, decide_false, decide_eq_true_eq, decide_eq_false_iff_not, imp_false, Classical.not_not, reduceCtorEq, implies_true, DL.sq_at_at, DL.sq_at_of, DL.sq_at_back, DL.sq_at_rest, DL.sq_of_at, DL.sq_of_of, DL.sq_of_back, DL.sq_of_rest, DL.sq_back_at, DL.sq_back_of, DL.sq_back_back, DL.sq_back_rest, DL.sq_rest_at, DL.sq_rest_of, DL.sq_rest_back, DL.sq_rest_rest, DL.imm_ru, DL.imm_enc, DL.imm_encO, DL.imms_enc, DL.run_pk, DL.book_getD, DL.book_len, DL.none_in, DL.intsOf_encO, DL.keysI_book, DL.sort_range, *])
theorem run_lnum {row : List Int} {w : List WObj} : ∀ (t : Tm) (q : Nat), t.dep + 1 ≤ q → run T q kf_l_number [t.enc, .dic (bookD row), .int (row.length + 1)] w = .ok (.tup [encO (t.num row), encO (t.place row)]) false w
  | .at m, q, hq => by
    obtain ⟨n, rfl⟩ : ∃ n, q = n + 1 := ⟨q - 1, by omega⟩
    refine run_w T_l_number rfl [.fro (Tm.enc (.at m)), .fro (.dic (bookD row)), .fro (.int (row.length + 1)), .un, .un] rfl ?_
    unfold fd_l_number
    simp only [Tm.enc]
    walk_at "wp"
    rfl
  | .of t, q, hq => by
    obtain ⟨n, rfl⟩ : ∃ n, q = n + 1 := ⟨q - 1, by omega⟩
    have ih := run_lnum (row := row) (w := w) t n (by simp only [Tm.dep] at hq; omega)
    refine run_w T_l_number rfl [.fro (Tm.enc (.of t)), .fro (.dic (bookD row)), .fro (.int (row.length + 1)), .un, .un] rfl ?_
    unfold fd_l_number
    simp only [Tm.enc]
    walk_at "wp"
    rw [ih]
    have e1 : Tm.place row (.of t) = t.num row := rfl
    have e2 : Tm.num row (.of t) = (t.num row).bind (here row) := by simp only [Tm.num, Tm.place]; rfl
    rw [e1, e2]
    cases t.num row <;> walk_at "wp"
    all_goals first | done | rfl
  | .back m t, q, hq => by
    obtain ⟨n, rfl⟩ : ∃ n, q = n + 1 := ⟨q - 1, by omega⟩
    have ih := run_lnum (row := row) (w := w) t n (by simp only [Tm.dep] at hq; omega)
    refine run_w T_l_number rfl [.fro (Tm.enc (.back m t)), .fro (.dic (bookD row)), .fro (.int (row.length + 1)), .un, .un] rfl ?_
    unfold fd_l_number
    simp only [Tm.enc]
    walk_at "wp"
    rw [ih]
    have e1 : Tm.place row (.back m t) = (t.num row).map fun i => row.length + 1 - m - i := rfl
    have e2 : Tm.num row (.back m t) = (t.num row).bind fun i => here row (row.length + 1 - m - i) := by
      show ((t.num row).map _).bind _ = _
      cases t.num row <;> rfl
    rw [e1, e2]
    cases t.num row <;> walk_at "wp"
    all_goals first | done | rfl
  | .rest m t, q, hq => by
    obtain ⟨n, rfl⟩ : ∃ n, q = n + 1 := ⟨q - 1, by omega⟩
    have ih := run_lnum (row := row) (w := w) t n (by simp only [Tm.dep] at hq; omega)
    refine run_w T_l_number rfl [.fro (Tm.enc (.rest m t)), .fro (.dic (bookD row)), .fro (.int (row.length + 1)), .un, .un] rfl ?_
    unfold fd_l_number
    simp only [Tm.enc]
    walk_at "wp"
    rw [ih]
    have e1 : Tm.place row (.rest m t) = (t.num row).map fun i => row.length + 1 - m - i := rfl
    have e2 : Tm.num row (.rest m t) = (t.num row).map fun i => row.length + 1 - m - i := by
      show ((t.num row).map _).bind _ = _
      cases t.num row <;> rfl
    rw [e1, e2]
    cases t.num row <;> walk_at "wp"
    all_goals first | done | rfl

theorem row_grow (r : Ru) {i : Nat} (h : i < r.first.length) : r.row (i + 1) = r.row i ++ [r.first.getD i 0] := by
  rw [row_first r h, row_first r (Nat.le_of_lt h), List.take_add_one, List.getD, List.getElem?_eq_getElem h]
  rfl
theorem run_lrow {q : Nat} {r : Ru} {many : Int} {w : List WObj} (hr : r.Ok) (h0 : 0 ≤ many) (hm : many ≤ 200) (hq : 6 ≤ q) : run T q kf_l_row [r.enc, .int many] w = .ok (.lst ((r.row many.toNat).map .int)) true w := by
  obtain ⟨n, rfl⟩ : ∃ n, q = n + 1 := ⟨q - 1, by omega⟩
  obtain ⟨many, rfl⟩ : ∃ k : Nat, many = k := ⟨many.toNat, by omega⟩
  rw [Int.toNat_natCast]
  have hf := hr.all
  refine run_w T_l_row rfl [.fro r.enc, .fro (.int many), .un, .un, .un, .un] rfl ?_
  unfold fd_l_row
  simp only [Ru.enc]
  walk_at "wp"
  refine HO_cut (fun s => ∃ c3 c4 c5, s = ⟨[.fro r.enc, .fro (.int many), .own (.dic (bookD (r.row many))), c3, c4, c5], w⟩) (x_forT (rangeI 1 (many + 1)) .int (fun s0 i s => (r.row i).length = i ∧ ∃ c3 c4 c5, s = ⟨[.fro r.enc, .fro (.int many), .own (.dic (bookD (r.row i))), c3, c4, c5], w⟩) ?_) ?_
  · walk_at "wp"
    refine ⟨⟨by rw [row_first r (Nat.zero_le _)]; rfl, .un, .un, .un, by rw [row_first r (Nat.zero_le _)]; rfl⟩, ?_, ?_⟩
    · rintro i x s hx ⟨hl, c3, c4, c5, rfl⟩
      obtain ⟨rfl, hi⟩ := get_rangeI hx
      simp only [Ru.enc]
      walk_at "wp"
      refine ⟨fun h => ?_, fun h => ?_⟩
      · have hb := book_len (r.row i)
        rw [at_ints (by omega) (by omega)]
        walk_at "wp"
        rw [book_put _ _ (by omega), show (1 + (i : Int) - 1).toNat = i by omega, ← row_grow r (by omega)]
        refine ⟨by omega, by rw [row_first r (by omega), List.length_take]; omega, .fro (.int (1 + i)), c4, c5, rfl⟩
      · refine e_lcM r.terms Tm.enc (fun t => encO (t.num (r.row i))) ?_
        walk_at "wp"
        refine ⟨by omega, fun t ht => ?_, ?_⟩
        · have := hr.dep t ht
          rw [show 1 + (i : Int) = (r.row i).length + 1 by omega, run_lnum t n (by omega)]
          walk_at "wp"
        · rw [show (r.terms.map fun t => encO (t.num (r.row i))) = (r.terms.map (Tm.num (r.row i))).map encO by rw [List.map_map]; rfl]
          have hsu := row_succ r (m := i) (by omega) hl
          walk_at "wp"
          cases qq : allSome (r.terms.map (Tm.num (r.row i))) with
          | none =>
            refine ⟨fun _ => ?_, fun z => absurd (allSome_none qq) z⟩
            rw [row_stop r (m := i + 1) (M := many) (by omega) (by rw [hsu, Ru.next, qq]; simp only [Option.map_none]; omega), hsu, Ru.next, qq]
            exact ⟨.fro (.int (1 + i)), _, c5, rfl⟩
          | some ys =>
            rw [allSome_some qq]
            walk_at "wp"
            refine ⟨fun z => by simp at z, fun _ => ?_⟩
            have hb := book_len (r.row i)
            rw [Ru.next, qq] at hsu
            simp only [Option.map_some] at hsu
            rw [book_put _ _ (by omega), ← hsu]
            exact ⟨by omega, by rw [hsu, List.length_append, List.length_singleton, hl], .fro (.int (1 + i)), _, c5, rfl⟩
    · rintro s ⟨hl, c3, c4, c5, rfl⟩
      rw [show ((many : Int) + 1 - 1).toNat = many by omega]
      exact ⟨c3, c4, c5, rfl⟩
  · rintro s ⟨c3, c4, c5, rfl⟩
    have hb := row_len r many
    generalize r.row many = row at *
    simp only [Ru.enc]
    walk_at "wp"
    refine e_lcM (rangeI 1 (row.length + 1)) .int (fun p => .int (row.getD (p - 1).toNat 0)) ?_
    walk_at "wp"
    refine ⟨by omega, fun p hp => ?_, ?_⟩
    · rw [mem_rangeI] at hp
      rw [book_get, here_get hp.1 (by omega)]
      walk_at "wp"
    · rw [show ((rangeI 1 (row.length + 1)).map fun p => D.int (row.getD (p - 1).toNat 0)) = row.map .int from ?_]
      · refine List.ext_getElem (by simp [len_rangeI]) fun j h1 h2 => ?_
        have hj : j < row.length := by simpa using h2
        simp only [rangeI, List.getElem_map, List.getElem_range]
        rw [show (1 + (j : Int) - 1).toNat = j by omega, List.getD, List.getElem?_eq_getElem hj]
        rfl
end DL

set_option pp.deepTerms.threshold 6
/-! W11: the laws' own parts. -/
namespace DL
open PySem L2
local macro_rules | `(tactic| walk_at "wp") => `(tactic| try simp (disch := first | assumption | omega) only [↓DL.H_ok, ↓DL.H_bind, ↓DL.H_opt, ↓DL.optK_some, ↓DL.optK_ite, ↓DL.condK_true, ↓DL.condK_false, ↓DL.condK_dec, ↓DL.condK_not, ↓DL.varK_fro, ↓DL.varK_own, ↓DL.callR_ok, ↓DL.callR_exc, ↓DL.e_var, ↓DL.e_glob, ↓DL.e_int, ↓DL.e_bl, ↓DL.e_str, ↓DL.e_non, ↓DL.e_bin, ↓DL.e_neg, ↓DL.H_asBl, ↓DL.e_not, ↓DL.e_and, ↓DL.e_or, ↓DL.e_and1, ↓DL.e_or1, ↓DL.H_if, ↓DL.e_and2, ↓DL.e_or2, ↓DL.e_cmp, ↓DL.e_chain, ↓DL.e_isN, ↓DL.e_isB, ↓DL.e_ife, ↓DL.H_ite, ↓DL.e_tup, ↓DL.e_lst, ↓DL.e_dic0, ↓DL.e_fz0, ↓DL.e_fz, ↓DL.e_es0, ↓DL.e_es, ↓DL.e_ix, ↓DL.e_slice, ↓DL.e_o0, ↓DL.e_o, ↓DL.e_bi, ↓DL.e_isi, ↓DL.e_meth, ↓DL.e_call, ↓DL.e_revs, ↓DL.e_orT, ↓DL.e_setf, ↓DL.HO_out, ↓DL.x_nil, ↓DL.x_cons, ↓DL.HO_nx, ↓DL.HO_if, ↓DL.HO_ite, ↓DL.x_asg, ↓DL.x_expr, ↓DL.x_ret, ↓DL.x_ite, ↓DL.x_pass, ↓DL.x_brk, ↓DL.x_raise, ↓DL.x_par, ↓DL.x_asgT, ↓DL.x_append', ↓DL.x_extend', ↓DL.x_setix', ↓DL.s_seq, ↓DL.s_rng1, ↓DL.s_rng2, ↓DL.s_enum, ↓DL.s_zip, ↓DL.c_none, ↓DL.c_some, DL.seqL_lst, DL.seqL_tup, DL.enumL_lst, DL.zipL_lst, DL.zipL_tup, DL.rngD_ok, DL.len_rangeI, DL.stK_mk, DL.put_fro, DL.put_fre, DL.put_bor, DL.fz_fro, DL.fz_fre, DL.fz_bor, DL.set_mk, DL.wipe_nil, DL.wipe_cons, DL.bindT_nm, DL.bindT_tp, DL.frz_mk, DL.frzC_own, DL.frzC_fro, DL.fzs_nil, DL.fzs_cons, DL.add_int, DL.add_lst, DL.add_tup, DL.sub_int, DL.mul_int, DL.mul_lst, DL.mul_tup, DL.fdiv_int, DL.md_int, DL.lt_int, DL.le_int, DL.gt_int, DL.ge_int, DL.eq_any, DL.ne_any, DL.isin_any, DL.notin_any, DL.blOf_bl, DL.intOf_int, DL.len_lst, DL.len_tup, DL.len_scr, DL.ix_lst, DL.ix_tup, DL.ix_scr, DL.ix_dic, DL.eq_int, DL.eq_lints, DL.eq_lints_nil, DL.scr_eq_nil, DL.imm_int, DL.imm_bl, DL.imm_non, DL.imm_str, DL.imm_lst, DL.imm_tup, DL.imms_nil, DL.imms_cons, DL.imms_ints, DL.own_fro, DL.own_fre, DL.own_bor, DL.ownB_own, DL.ownB_fro, DL.clOf_fro, DL.clOf_fre, DL.clOf_bor, DL.isNon_non, DL.isNon_int, DL.isNon_tup, DL.isNon_lst, DL.isNon_str, DL.slice_lst, DL.slice_tup, DL.list_lst, DL.list_tup, DL.tuple_lst, DL.tuple_tup, DL.sum_lst, DL.sum_tup, DL.all_lst, DL.max_int, DL.min_int, DL.abs_int, DL.int_bl, DL.int_int, DL.intsOf_map, DL.blsOf_map, DL.truD_lst, DL.setD_len, DL.setD_srt, DL.sorted_lst, DL.sorted_dic, DL.get1_dic, DL.get2_dic, DL.count_lst, DL.recv_get, DL.recv_count, DL.recv_index, DL.keyOf_int, DL.keyOf_str, DL.appK_own, DL.extK_own, DL.setK_dic, DL.setK_lst, DL.isOwnL_own, DL.isOwn_own, DL.isi_ii, DL.isi_ib, DL.isi_tt, DL.isi_ss, DL.isi_ll, DL.isi_bi, DL.isi_bb, DL.isi_lt, DL.isi_tl, DL.at0, DL.at1, DL.at2, DL.last1, DL.last2, DL.last3, DL.at_ints, DL.encO_some, DL.encO_none, CRes.ok.injEq, D.bl.injEq, D.int.injEq, D.lst.injEq, D.tup.injEq, D.str.injEq, DL.ints_inj, Prod.mk.injEq, if_true, if_false, Bool.false_eq_true, Bool.true_eq_false, Bool.and_true, Bool.true_and, Bool.and_self, Bool.and_false, Bool.false_and, List.length_cons, List.length_nil, List.length_map, Nat.reduceAdd, Nat.reduceLeDiff, true_and, and_true, List.zip_cons_cons, List.zip_nil_right, List.foldl_cons, List.foldl_nil, bne_self_eq_false, Bool.bne_false, Bool.bne_true, Bool.not_false, Bool.not_true, Option.map_none, List.cons_append, List.nil_append, Nat.reduceLT, or_self, and_self, or_true, true_or, or_false, false_or, and_false, false_and, Int.cast_ofNat_Int, Int.reduceLT, Int.reduceLE, Int.reduceEq, Int.reduceNeg, Int.reduceAdd, Int.reduceSub, Int.reduceToNat, true_imp_iff, false_imp_iff, not_true_eq_false, not_false_eq_true, Bool.not_eq_true, Bool.not_eq_false, List.getElem?_cons_succ, List.getElem?_cons_zero, List.set_cons_zero, List.set_cons_succ, List.map_cons, List.map_nil, List.drop_zero, List.take_zero, DL.omap, DL.obind, eq_self, decide_true, decide_false, decide_eq_true_eq, decide_eq_false_iff_not, imp_false, Classical.not_not, reduceCtorEq, implies_true, DL.sq_at_at, DL.sq_at_of, DL.sq_at_back, DL.sq_at_rest, DL.sq_of_at, DL.sq_of_of, DL.sq_of_back, DL.sq_of_rest, DL.sq_back_at, DL.sq_back_of, DL.sq_back_back, DL.sq_back_rest, DL.sq_rest_at, DL.sq_rest_of, DL.sq_rest_back, DL.sq_rest_rest, DL.imm_ru, DL.imm_enc, DL.imm_encO, DL.imm_pt, DL.run_pk, DL.run_lrow, DL.book_len, DL.cut_takeI, DL.cut_dropI, DL.cut_bothI])
local macro_rules | `(tactic| walk_at "ws") => `(tactic| try simp (disch := first | assumption | omega) only [↓DL.H_ok, ↓DL.H_bind, ↓DL.H_opt, ↓DL.optK_some, ↓DL.optK_ite, ↓DL.condK_true, ↓DL.condK_false, ↓DL.condK_dec, ↓DL.condK_not, ↓DL.varK_fro, ↓DL.varK_own, ↓DL.callR_ok, ↓DL.callR_exc, ↓DL.e_var, ↓DL.e_glob, ↓DL.e_int, ↓DL.e_bl, ↓DL.e_str, ↓DL.e_non, ↓DL.e_bin, ↓DL.e_neg, ↓DL.H_asBl, ↓DL.e_not, ↓DL.e_and, ↓DL.e_or, ↓DL.e_and1, ↓DL.e_or1, ↓DL.H_if, ↓DL.e_and2, ↓DL.e_or2, ↓DL.e_cmp, ↓DL.e_chain, ↓DL.e_isN, ↓DL.e_isB, ↓DL.e_ife, ↓DL.H_ite, ↓DL.e_tup, ↓DL.e_lst, ↓DL.e_dic0, ↓DL.e_fz0, ↓DL.e_fz, ↓DL.e_es0, ↓DL.e_es, ↓DL.e_ix, ↓DL.e_slice, ↓DL.e_o0, ↓DL.e_o, ↓DL.e_bi, ↓DL.e_isi, ↓DL.e_meth, ↓DL.e_call, ↓DL.e_revs, ↓DL.e_orT, ↓DL.e_setf, ↓DL.HO_out, ↓DL.x_nil, ↓DL.x_cons, ↓DL.HO_nx, ↓DL.HO_if, ↓DL.HO_ite, ↓DL.x_asg, ↓DL.x_expr, ↓DL.x_ret, ↓DL.x_ite, ↓DL.x_pass, ↓DL.x_brk, ↓DL.x_raise, ↓DL.x_par, ↓DL.x_asgT, ↓DL.x_append', ↓DL.x_extend', ↓DL.x_setix', ↓DL.s_seq, ↓DL.s_rng1, ↓DL.s_rng2, ↓DL.s_enum, ↓DL.s_zip, ↓DL.c_none, ↓DL.c_some, DL.seqL_lst, DL.seqL_tup, DL.enumL_lst, DL.zipL_lst, DL.zipL_tup, DL.rngD_ok, DL.len_rangeI, DL.stK_mk, DL.put_fro, DL.put_fre, DL.put_bor, DL.fz_fro, DL.fz_fre, DL.fz_bor, DL.set_mk, DL.wipe_nil, DL.wipe_cons, DL.bindT_nm, DL.bindT_tp, DL.frz_mk, DL.frzC_own, DL.frzC_fro, DL.fzs_nil, DL.fzs_cons, DL.add_int, DL.add_lst, DL.add_tup, DL.sub_int, DL.mul_int, DL.mul_lst, DL.mul_tup, DL.fdiv_int, DL.md_int, DL.lt_int, DL.le_int, DL.gt_int, DL.ge_int, DL.eq_any, DL.ne_any, DL.isin_any, DL.notin_any, DL.blOf_bl, DL.intOf_int, DL.len_lst, DL.len_tup, DL.len_scr, DL.ix_lst, DL.ix_tup, DL.ix_scr, DL.ix_dic, DL.eq_int, DL.eq_lints, DL.eq_lints_nil, DL.scr_eq_nil, DL.imm_int, DL.imm_bl, DL.imm_non, DL.imm_str, DL.imm_lst, DL.imm_tup, DL.imms_nil, DL.imms_cons, DL.imms_ints, DL.own_fro, DL.own_fre, DL.own_bor, DL.ownB_own, DL.ownB_fro, DL.clOf_fro, DL.clOf_fre, DL.clOf_bor, DL.isNon_non, DL.isNon_int, DL.isNon_tup, DL.isNon_lst, DL.isNon_str, DL.slice_lst, DL.slice_tup, DL.list_lst, DL.list_tup, DL.tuple_lst, DL.tuple_tup, DL.sum_lst, DL.sum_tup, DL.all_lst, DL.max_int, DL.min_int, DL.abs_int, DL.int_bl, DL.int_int, DL.intsOf_map, DL.blsOf_map, DL.truD_lst, DL.setD_len, DL.setD_srt, DL.sorted_lst, DL.sorted_dic, DL.get1_dic, DL.get2_dic, DL.count_lst, DL.recv_get, DL.recv_count, DL.recv_index, DL.keyOf_int, DL.keyOf_str, DL.appK_own, DL.extK_own, DL.setK_dic, DL.setK_lst, DL.isOwnL_own, DL.isOwn_own, DL.isi_ii, DL.isi_ib, DL.isi_tt, DL.isi_ss, DL.isi_ll, DL.isi_bi, DL.isi_bb, DL.isi_lt, DL.isi_tl, DL.at0, DL.at1, DL.at2, DL.last1, DL.last2, DL.last3, DL.at_ints, DL.encO_some, DL.encO_none, CRes.ok.injEq, D.bl.injEq, D.int.injEq, D.lst.injEq, D.tup.injEq, D.str.injEq, DL.ints_inj, Prod.mk.injEq, if_true, if_false, Bool.false_eq_true, Bool.true_eq_false, Bool.and_true, Bool.true_and, Bool.and_self, Bool.and_false, Bool.false_and, List.length_cons, List.length_nil, List.length_map, Nat.reduceAdd, Nat.reduceLeDiff, true_and, and_true, List.zip_cons_cons, List.zip_nil_right, List.foldl_cons, List.foldl_nil, bne_self_eq_false, Bool.bne_false, Bool.bne_true, Bool.not_false, Bool.not_true, Option.map_none, List.cons_append, List.nil_append, Nat.reduceLT, or_self, and_self, or_true, true_or, or_false, false_or, and_false, false_and, Int.cast_ofNat_Int, Int.reduceLT, Int.reduceLE, Int.reduceEq, Int.reduceNeg, Int.reduceAdd, Int.reduceSub, Int.reduceToNat, true_imp_iff, false_imp_iff, not_true_eq_false, not_false_eq_true, Bool.not_eq_true, Bool.not_eq_false, List.getElem?_cons_succ, List.getElem?_cons_zero, List.set_cons_zero, List.set_cons_succ, List.map_cons, List.map_nil, List.drop_zero, List.take_zero, DL.omap, DL.obind, eq_self, decide_true, decide_false, decide_eq_true_eq, decide_eq_false_iff_not, imp_false, Classical.not_not, reduceCtorEq, implies_true, DL.sq_at_at, DL.sq_at_of, DL.sq_at_back, DL.sq_at_rest, DL.sq_of_at, DL.sq_of_of, DL.sq_of_back, DL.sq_of_rest, DL.sq_back_at, DL.sq_back_of, DL.sq_back_back, DL.sq_back_rest, DL.sq_rest_at, DL.sq_rest_of, DL.sq_rest_back, DL.sq_rest_rest, DL.imm_ru, DL.imm_enc, DL.imm_encO, DL.imm_pt, DL.run_pk, DL.run_lrow, DL.book_len, DL.cut_takeI, DL.cut_dropI, DL.cut_bothI, *])
local macro_rules | `(tactic| walk_at "wi") => `(tactic| try simp (disch := first | assumption | omega) only [↓DL.H_ok, ↓DL.H_bind, ↓DL.H_opt, ↓DL.optK_some, ↓DL.optK_ite, ↓DL.condK_true, ↓DL.condK_false, ↓DL.condK_dec, ↓DL.condK_not, ↓DL.varK_fro, ↓DL.varK_own, ↓DL.callR_ok, ↓DL.callR_exc, ↓DL.e_var, ↓DL.e_glob, ↓DL.e_int, ↓DL.e_bl, ↓DL.e_str, ↓DL.e_non, ↓DL.e_bin, ↓DL.e_neg, ↓DL.H_asBl, ↓DL.e_not, ↓DL.e_and, ↓DL.e_or, ↓DL.e_and1, ↓DL.e_or1, ↓DL.H_if, ↓DL.e_and2, ↓DL.e_or2, ↓DL.e_cmp, ↓DL.e_chain, ↓DL.e_isN, ↓DL.e_isB, ↓DL.H_ite, ↓DL.e_tup, ↓DL.e_lst, ↓DL.e_dic0, ↓DL.e_fz0, ↓DL.e_fz, ↓DL.e_es0, ↓DL.e_es, ↓DL.e_ix, ↓DL.e_slice, ↓DL.e_o0, ↓DL.e_o, ↓DL.e_bi, ↓DL.e_isi, ↓DL.e_meth, ↓DL.e_call, ↓DL.e_revs, ↓DL.e_orT, ↓DL.e_setf, ↓DL.HO_out, ↓DL.x_nil, ↓DL.x_cons, ↓DL.HO_nx, ↓DL.HO_if, ↓DL.HO_ite, ↓DL.x_asg, ↓DL.x_expr, ↓DL.x_ret, ↓DL.x_pass, ↓DL.x_brk, ↓DL.x_raise, ↓DL.x_par, ↓DL.x_asgT, ↓DL.x_append', ↓DL.x_extend', ↓DL.x_setix', ↓DL.s_seq, ↓DL.s_rng1, ↓DL.s_rng2, ↓DL.s_enum, ↓DL.s_zip, ↓DL.c_none, ↓DL.c_some, DL.seqL_lst, DL.seqL_tup, DL.enumL_lst, DL.zipL_lst, DL.zipL_tup, DL.rngD_ok, DL.len_rangeI, DL.stK_mk, DL.put_fro, DL.put_fre, DL.put_bor, DL.fz_fro, DL.fz_fre, DL.fz_bor, DL.set_mk, DL.wipe_nil, DL.wipe_cons, DL.bindT_nm, DL.bindT_tp, DL.frz_mk, DL.frzC_own, DL.frzC_fro, DL.fzs_nil, DL.fzs_cons, DL.add_int, DL.add_lst, DL.add_tup, DL.sub_int, DL.mul_int, DL.mul_lst, DL.mul_tup, DL.fdiv_int, DL.md_int, DL.lt_int, DL.le_int, DL.gt_int, DL.ge_int, DL.eq_any, DL.ne_any, DL.isin_any, DL.notin_any, DL.blOf_bl, DL.intOf_int, DL.len_lst, DL.len_tup, DL.len_scr, DL.ix_lst, DL.ix_tup, DL.ix_scr, DL.ix_dic, DL.eq_int, DL.eq_lints, DL.eq_lints_nil, DL.scr_eq_nil, DL.imm_int, DL.imm_bl, DL.imm_non, DL.imm_str, DL.imm_lst, DL.imm_tup, DL.imms_nil, DL.imms_cons, DL.imms_ints, DL.own_fro, DL.own_fre, DL.own_bor, DL.ownB_own, DL.ownB_fro, DL.clOf_fro, DL.clOf_fre, DL.clOf_bor, DL.isNon_non, DL.isNon_int, DL.isNon_tup, DL.isNon_lst, DL.isNon_str, DL.slice_lst, DL.slice_tup, DL.list_lst, DL.list_tup, DL.tuple_lst, DL.tuple_tup, DL.sum_lst, DL.sum_tup, DL.all_lst, DL.max_int, DL.min_int, DL.abs_int, DL.int_bl, DL.int_int, DL.intsOf_map, DL.blsOf_map, DL.truD_lst, DL.setD_len, DL.setD_srt, DL.sorted_lst, DL.sorted_dic, DL.get1_dic, DL.get2_dic, DL.count_lst, DL.recv_get, DL.recv_count, DL.recv_index, DL.keyOf_int, DL.keyOf_str, DL.appK_own, DL.extK_own, DL.setK_dic, DL.setK_lst, DL.isOwnL_own, DL.isOwn_own, DL.isi_ii, DL.isi_ib, DL.isi_tt, DL.isi_ss, DL.isi_ll, DL.isi_bi, DL.isi_bb, DL.isi_lt, DL.isi_tl, DL.at0, DL.at1, DL.at2, DL.last1, DL.last2, DL.last3, DL.at_ints, DL.encO_some, DL.encO_none, CRes.ok.injEq, D.bl.injEq, D.int.injEq, D.lst.injEq, D.tup.injEq, D.str.injEq, DL.ints_inj, Prod.mk.injEq, if_true, if_false, Bool.false_eq_true, Bool.true_eq_false, Bool.and_true, Bool.true_and, Bool.and_self, Bool.and_false, Bool.false_and, List.length_cons, List.length_nil, List.length_map, Nat.reduceAdd, Nat.reduceLeDiff, true_and, and_true, List.zip_cons_cons, List.zip_nil_right, List.foldl_cons, List.foldl_nil, bne_self_eq_false, Bool.bne_false, Bool.bne_true, Bool.not_false, Bool.not_true, Option.map_none, List.cons_append, List.nil_append, Nat.reduceLT, or_self, and_self, or_true, true_or, or_false, false_or, and_false, false_and, Int.cast_ofNat_Int, Int.reduceLT, Int.reduceLE, Int.reduceEq, Int.reduceNeg, Int.reduceAdd, Int.reduceSub, Int.reduceToNat, true_imp_iff, false_imp_iff, not_true_eq_false, not_false_eq_true, Bool.not_eq_true, Bool.not_eq_false, List.getElem?_cons_succ, List.getElem?_cons_zero, List.set_cons_zero, List.set_cons_succ, List.map_cons, List.map_nil, List.drop_zero, List.take_zero, DL.omap, DL.obind, eq_self, decide_true, decide_false, decide_eq_true_eq, decide_eq_false_iff_not, imp_false, Classical.not_not, reduceCtorEq, implies_true, DL.sq_at_at, DL.sq_at_of, DL.sq_at_back, DL.sq_at_rest, DL.sq_of_at, DL.sq_of_of, DL.sq_of_back, DL.sq_of_rest, DL.sq_back_at, DL.sq_back_of, DL.sq_back_back, DL.sq_back_rest, DL.sq_rest_at, DL.sq_rest_of, DL.sq_rest_back, DL.sq_rest_rest, DL.imm_ru, DL.imm_enc, DL.imm_encO, DL.imm_pt, DL.run_pk, DL.run_lrow, DL.book_len, DL.cut_takeI, DL.cut_dropI, DL.cut_bothI])
local macro_rules | `(tactic| walk_at "wj") => `(tactic| try simp (disch := first | assumption | omega) only [↓DL.H_ok, ↓DL.H_bind, ↓DL.H_opt, ↓DL.optK_some, ↓DL.optK_ite, ↓DL.condK_true, ↓DL.condK_false, ↓DL.condK_dec, ↓DL.condK_not, ↓DL.varK_fro, ↓DL.varK_own, ↓DL.callR_ok, ↓DL.callR_exc, ↓DL.e_var, ↓DL.e_glob, ↓DL.e_int, ↓DL.e_bl, ↓DL.e_str, ↓DL.e_non, ↓DL.e_bin, ↓DL.e_neg, ↓DL.H_asBl, ↓DL.e_not, ↓DL.e_and, ↓DL.e_or, ↓DL.e_and1, ↓DL.e_or1, ↓DL.H_if, ↓DL.e_and2, ↓DL.e_or2, ↓DL.e_cmp, ↓DL.e_chain, ↓DL.e_isN, ↓DL.e_isB, ↓DL.H_ite, ↓DL.e_tup, ↓DL.e_lst, ↓DL.e_dic0, ↓DL.e_fz0, ↓DL.e_fz, ↓DL.e_es0, ↓DL.e_es, ↓DL.e_ix, ↓DL.e_slice, ↓DL.e_o0, ↓DL.e_o, ↓DL.e_bi, ↓DL.e_isi, ↓DL.e_meth, ↓DL.e_call, ↓DL.e_revs, ↓DL.e_orT, ↓DL.e_setf, ↓DL.HO_out, ↓DL.x_nil, ↓DL.x_cons, ↓DL.HO_nx, ↓DL.HO_if, ↓DL.HO_ite, ↓DL.x_asg, ↓DL.x_expr, ↓DL.x_ret, ↓DL.x_pass, ↓DL.x_brk, ↓DL.x_raise, ↓DL.x_par, ↓DL.x_asgT, ↓DL.x_append', ↓DL.x_extend', ↓DL.x_setix', ↓DL.s_seq, ↓DL.s_rng1, ↓DL.s_rng2, ↓DL.s_enum, ↓DL.s_zip, ↓DL.c_none, ↓DL.c_some, DL.seqL_lst, DL.seqL_tup, DL.enumL_lst, DL.zipL_lst, DL.zipL_tup, DL.rngD_ok, DL.len_rangeI, DL.stK_mk, DL.put_fro, DL.put_fre, DL.put_bor, DL.fz_fro, DL.fz_fre, DL.fz_bor, DL.set_mk, DL.wipe_nil, DL.wipe_cons, DL.bindT_nm, DL.bindT_tp, DL.frz_mk, DL.frzC_own, DL.frzC_fro, DL.fzs_nil, DL.fzs_cons, DL.add_int, DL.add_lst, DL.add_tup, DL.sub_int, DL.mul_int, DL.mul_lst, DL.mul_tup, DL.fdiv_int, DL.md_int, DL.lt_int, DL.le_int, DL.gt_int, DL.ge_int, DL.eq_any, DL.ne_any, DL.isin_any, DL.notin_any, DL.blOf_bl, DL.intOf_int, DL.len_lst, DL.len_tup, DL.len_scr, DL.ix_lst, DL.ix_tup, DL.ix_scr, DL.ix_dic, DL.eq_int, DL.eq_lints, DL.eq_lints_nil, DL.scr_eq_nil, DL.imm_int, DL.imm_bl, DL.imm_non, DL.imm_str, DL.imm_lst, DL.imm_tup, DL.imms_nil, DL.imms_cons, DL.imms_ints, DL.own_fro, DL.own_fre, DL.own_bor, DL.ownB_own, DL.ownB_fro, DL.clOf_fro, DL.clOf_fre, DL.clOf_bor, DL.isNon_non, DL.isNon_int, DL.isNon_tup, DL.isNon_lst, DL.isNon_str, DL.slice_lst, DL.slice_tup, DL.list_lst, DL.list_tup, DL.tuple_lst, DL.tuple_tup, DL.sum_lst, DL.sum_tup, DL.all_lst, DL.max_int, DL.min_int, DL.abs_int, DL.int_bl, DL.int_int, DL.intsOf_map, DL.blsOf_map, DL.truD_lst, DL.setD_len, DL.setD_srt, DL.sorted_lst, DL.sorted_dic, DL.get1_dic, DL.get2_dic, DL.count_lst, DL.recv_get, DL.recv_count, DL.recv_index, DL.keyOf_int, DL.keyOf_str, DL.appK_own, DL.extK_own, DL.setK_dic, DL.setK_lst, DL.isOwnL_own, DL.isOwn_own, DL.isi_ii, DL.isi_ib, DL.isi_tt, DL.isi_ss, DL.isi_ll, DL.isi_bi, DL.isi_bb, DL.isi_lt, DL.isi_tl, DL.at0, DL.at1, DL.at2, DL.last1, DL.last2, DL.last3, DL.at_ints, DL.encO_some, DL.encO_none, CRes.ok.injEq, D.bl.injEq, D.int.injEq, D.lst.injEq, D.tup.injEq, D.str.injEq, DL.ints_inj, Prod.mk.injEq, if_true, if_false, Bool.false_eq_true, Bool.true_eq_false, Bool.and_true, Bool.true_and, Bool.and_self, Bool.and_false, Bool.false_and, List.length_cons, List.length_nil, List.length_map, Nat.reduceAdd, Nat.reduceLeDiff, true_and, and_true, List.zip_cons_cons, List.zip_nil_right, List.foldl_cons, List.foldl_nil, bne_self_eq_false, Bool.bne_false, Bool.bne_true, Bool.not_false, Bool.not_true, Option.map_none, List.cons_append, List.nil_append, Nat.reduceLT, or_self, and_self, or_true, true_or, or_false, false_or, and_false, false_and, Int.cast_ofNat_Int, Int.reduceLT, Int.reduceLE, Int.reduceEq, Int.reduceNeg, Int.reduceAdd, Int.reduceSub, Int.reduceToNat, true_imp_iff, false_imp_iff, not_true_eq_false, not_false_eq_true, Bool.not_eq_true, Bool.not_eq_false, List.getElem?_cons_succ, List.getElem?_cons_zero, List.set_cons_zero, List.set_cons_succ, List.map_cons, List.map_nil, List.drop_zero, List.take_zero, DL.omap, DL.obind, eq_self, decide_true, decide_false, decide_eq_true_eq, decide_eq_false_iff_not, imp_false, Classical.not_not, reduceCtorEq, implies_true, DL.sq_at_at, DL.sq_at_of, DL.sq_at_back, DL.sq_at_rest, DL.sq_of_at, DL.sq_of_of, DL.sq_of_back, DL.sq_of_rest, DL.sq_back_at, DL.sq_back_of, DL.sq_back_back, DL.sq_back_rest, DL.sq_rest_at, DL.sq_rest_of, DL.sq_rest_back, DL.sq_rest_rest, DL.imm_ru, DL.imm_enc, DL.imm_encO, DL.imm_pt, DL.run_pk, DL.run_lrow, DL.book_len, DL.cut_takeI, DL.cut_dropI, DL.cut_bothI, *])
theorem run_lparts {q : Nat} {r : Ru} {m : Int} {w : List WObj} (hr : r.Ok) (h0 : 0 ≤ m) (hm : m ≤ 200) (hq : 10 ≤ q) : run T q kf_l_parts [r.enc, .int m] w = .ok (.lst ((r.parts (r.row m.toNat) (r.row m.toNat).length).map Pt.enc)) true w := by
  obtain ⟨n, rfl⟩ : ∃ n, q = n + 1 := ⟨q - 1, by omega⟩
  have hf := hr.all
  have hl := row_len r m.toNat
  refine run_w T_l_parts rfl [.fro r.enc, .fro (.int m), .un, .un, .un, .un, .un, .un, .un, .un, .un, .un, .un, .un, .un, .un] rfl ?_
  unfold fd_l_parts
  have er := run_lrow (q := n) (w := w) hr h0 (by omega) (by omega)
  have tms := fun (i : Nat) (h1 : r.first.length ≤ i) (h2 : i < (r.row m.toNat).length) (t : Tm) (ht : t ∈ r.terms) => row_term r h1 h2 ht
  generalize r.row m.toNat = row at *
  simp only [Ru.enc] at *
  walk_at "wj"
  refine x_forT (rangeI 1 (row.length + 1)) .int (fun s0 i s => ∃ c5 c6 c7 c8 c9 c10 c11 c12 c13 c14 c15, s = ⟨[.fro r.enc, .fro (.int m), .own (.lst (row.map .int)), .own (.lst ((r.parts row i).map Pt.enc)), .own (.dic (bookD (row.take i))), c5, c6, c7, c8, c9, c10, c11, c12, c13, c14, c15], w⟩) ?_
  walk_at "wp"
  refine ⟨⟨.un, .un, .un, .un, .un, .un, .un, .un, .un, .un, .un, rfl⟩, ?_, ?_⟩
  · rintro i x s hx ⟨c5, c6, c7, c8, c9, c10, c11, c12, c13, c14, c15, rfl⟩
    obtain ⟨rfl, hi⟩ := get_rangeI hx
    have hi' : i < row.length := by omega
    have pl := parts_len r row i
    have hb := book_len (row.take i)
    have lt : (row.take i).length = i := by rw [List.length_take]; omega
    have eb : putD (bookD (row.take i)) (.inl (1 + (i : Int))) (.int (row.getD (1 + (i : Int) - 1).toNat 0)) = bookD (row.take (i + 1)) := by
      rw [book_put _ _ (by omega), show (1 + (i : Int) - 1).toNat = i by omega, take_snoc (x := row.getD i 0) (by rw [List.getD, List.getElem?_eq_getElem hi']; rfl)]
    simp only [Ru.enc]
    walk_at "wp"
    refine ⟨fun h => ?_, fun h => ?_⟩
    · refine e_lcM (rangeI 0 r.first.length) .int (fun j => .int (if 1 + (i : Int) - 1 = j then 1 else 0)) ?_
      walk_at "wp"
      refine ⟨by omega, by omega, by omega, .fro (.int (1 + i)), c6, c7, c8, c9, c10, c11, c12, c13, c14, c15, ?_⟩
      rw [eb, show r.parts row (i + 1) = r.parts row i ++ [Pt.unit r.first.length i] by simp only [Ru.parts]; rw [if_pos (by omega)]]
      have e : ((rangeI 0 r.first.length).map fun j => D.int (if 1 + (i : Int) - 1 = j then 1 else 0)) = (Pt.unit r.first.length i).c.map .int := by
        simp only [Pt.unit, List.map_map]
        refine List.map_congr_left fun j _ => ?_
        simp only [Function.comp]
        congr 1
        by_cases hh : (i : Int) = j
        · rw [if_pos (by omega), if_pos (by omega)]
        · rw [if_neg (by omega), if_neg (by omega)]
      rw [e, List.map_append]
      rfl
    · rw [rep_int]
      refine ⟨⟨by omega, by omega, by omega⟩, ?_⟩
      refine x_forT r.terms Tm.enc (fun s0 j s => ∃ c6 c10 c11 c12 c13 c14 c15, s = ⟨[.fro r.enc, .fro (.int m), .own (.lst (row.map .int)), .own (.lst ((r.parts row i).map Pt.enc)), .own (.dic (bookD (row.take i))), .fro (.int (1 + i)), c6, .own (.lst (((r.terms.take j).foldl (Pt.step (r.parts row i) (row.take i)) ⟨List.replicate r.first.length 0, 1, 0⟩).c.map .int)), .fro (.int ((r.terms.take j).foldl (Pt.step (r.parts row i) (row.take i)) ⟨List.replicate r.first.length 0, 1, 0⟩).o), .fro (.int ((r.terms.take j).foldl (Pt.step (r.parts row i) (row.take i)) ⟨List.replicate r.first.length 0, 1, 0⟩).r), c10, c11, c12, c13, c14, c15], w⟩) ?_
      walk_at "wp"
      refine ⟨⟨c6, c10, c11, c12, c13, c14, c15, rfl⟩, ?_, ?_⟩
      · rintro j t s ht ⟨c6, c10, c11, c12, c13, c14, c15, rfl⟩
        have tm : t ∈ r.terms := List.mem_of_getElem? ht
        obtain ⟨y, hy⟩ := tms i (by omega) (by omega) t tm
        have hd := hr.dep t tm
        rw [take_snoc ht, List.foldl_append, List.foldl_cons, List.foldl_nil]
        have hacc := foldl_len (r.parts row i) (row.take i) (r.terms.take j) ⟨List.replicate r.first.length 0, 1, 0⟩
        rw [List.length_replicate] at hacc
        generalize (r.terms.take j).foldl (Pt.step (r.parts row i) (row.take i)) ⟨List.replicate r.first.length 0, 1, 0⟩ = acc at hacc ⊢
        obtain ⟨x, tl, et, eq⟩ := tm_tag (t := t)
        have rn := run_lnum (row := row.take i) (w := w) t n (by omega)
        rw [show (((row.take i).length : Nat) : Int) + 1 = 1 + (i : Int) by omega, hy] at rn
        simp only [Ru.enc]
        rw [et] at rn ⊢
        simp only [encO_some] at rn
        cases hh : t.isRest with
        | true =>
          rw [hh] at eq
          walk_at "wp"
          rw [rn]
          walk_at "wp"
          rw [eq]
          walk_at "wp"
          refine ⟨c6, .fro t.enc, .fro (.int y), .fro (encO (t.place (row.take i))), c13, c14, c15, ?_⟩
          simp only [Pt.step, hh, hy, if_true, Option.getD_some, et, Ru.enc]
        | false =>
          rw [hh] at eq
          obtain ⟨p, hp, p1, p2, _⟩ := num_place hh hy
          rw [hp] at rn
          simp only [encO_some] at rn
          walk_at "wp"
          rw [rn]
          walk_at "wp"
          rw [eq]
          walk_at "wp"
          obtain ⟨o, ho⟩ : ∃ o, (r.parts row i)[(p - 1).toNat]? = some o := ⟨_, List.getElem?_eq_getElem (by rw [pl]; rw [List.length_take] at p2; omega)⟩
          rw [at_map (by omega) ho]
          simp only [Pt.enc]
          walk_at "wp"
          refine e_lcM (acc.c.zip o.c) (fun p => .tup [.int p.1, .int p.2]) (fun p => .int (p.1 + p.2)) ?_
          walk_at "wp"
          rw [zipD_map]
          refine ⟨rfl, ?_, c6, .fro t.enc, .fro (.int y), .fro (.int p), .fro o.enc, c14, c15, ?_⟩
          · rw [List.length_zip]; omega
          · rw [show Pt.step (r.parts row i) (row.take i) acc t = ⟨(acc.c.zip o.c).map fun p => p.1 + p.2, acc.o + o.o, acc.r + o.r⟩ by
              unfold Pt.step
              rw [if_neg (by rw [hh]; simp), hp, Option.getD_some, List.getD, ho]
              rfl]
            simp only [Pt.enc, Ru.enc, et, List.map_map]
            rfl
      · rintro s ⟨c6, c10, c11, c12, c13, c14, c15, rfl⟩
        simp only [Ru.enc]
        walk_at "wp"
        refine ⟨by omega, by omega, .fro (.int (1 + i)), c6, ?_⟩
        rw [eb, show r.parts row (i + 1) = r.parts row i ++ [r.terms.foldl (Pt.step (r.parts row i) (row.take i)) ⟨List.replicate r.first.length 0, 1, 0⟩] by simp only [Ru.parts]; rw [if_neg (by omega)]]
        rw [List.take_length, List.map_append]
        exact ⟨_, _, _, _, _, _, _, _, _, rfl⟩
  · rintro s ⟨c5, c6, c7, c8, c9, c10, c11, c12, c13, c14, c15, rfl⟩
    walk_at "wp"
    rw [show ((row.length : Int) + 1 - 1).toNat = row.length by omega]
end DL

set_option pp.deepTerms.threshold 6
/-! W12: places never looked at. -/
namespace DL
open PySem L2
theorem ints_any (a : Int) : ∀ xs : List Int, ((toPys (xs.map .int)).any fun z => PyData.eqv z (toPy (.int a))) = decide (a ∈ xs)
  | [] => by simp [toPys]
  | x :: r => by
    have e : PyData.eqv (toPy (.int x)) (toPy (.int a)) = decide (a = x) := by
      simp only [toPy, PyData.eqv]
      by_cases h : a = x <;> simp [h]
      intro z; exact h z.symm
    simp only [List.map_cons, toPys, List.any_cons, ints_any a r, e]
    by_cases h : a = x <;> simp [h]
theorem in_lints {a : Int} {xs : List Int} : inD (.int a) (.lst (xs.map .int)) = some (decide (a ∈ xs)) := by
  simp only [inD]
  rw [okPy_nice (n := 0) (by simp [nice]) (by decide), okPy_nice (n := 1) nice_lints (by decide)]
  simp only [Bool.and_self, if_true, ints_any]
theorem in_dicI {a : Int} {kds : List (Key × D)} : inD (.int a) (.dic kds) = some (getD' kds (.inl a)).isSome := by
  show some (kds.any fun p => decide (p.1 = (Sum.inl a : Key))) = _
  rw [DL.getD_any]
def seenD (xs : List Int) : List (Key × D) := xs.foldl (fun k x => putD k (.inl x) (.bl true)) []
theorem putD_any (kds : List (Key × D)) (k k' : Key) (d : D) : ((putD kds k d).any fun p => decide (p.1 = k')) = (decide (k = k') || kds.any fun p => decide (p.1 = k')) := by
  unfold putD
  by_cases h : (kds.any fun p => decide (p.1 = k)) = true
  · rw [if_pos h, List.any_map]
    have e : ((fun p : Key × D => decide (p.1 = k')) ∘ fun p => if p.1 = k then (p.1, d) else p) = fun p => decide (p.1 = k') := by
      funext p
      simp only [Function.comp]
      split <;> rfl
    rw [e]
    by_cases hk : k = k'
    · subst hk; rw [h]; simp
    · simp [hk]
  · rw [if_neg h, List.any_append]
    simp [Bool.or_comm]
theorem putD_len (kds : List (Key × D)) (k : Key) (d : D) : (putD kds k d).length ≤ kds.length + 1 := by
  unfold putD
  split <;> simp
theorem seen_snoc (xs : List Int) (x : Int) : seenD (xs ++ [x]) = putD (seenD xs) (.inl x) (.bl true) := by simp [seenD]
theorem seen_get (xs : List Int) (p : Int) : (getD' (seenD xs) (.inl p)).isSome = decide (p ∈ xs) := by
  rw [← DL.getD_any]
  have gen : ∀ (xs : List Int) (k : List (Key × D)), ((xs.foldl (fun k x => putD k (.inl x) (.bl true)) k).any fun q => decide (q.1 = (Sum.inl p : Key))) = (decide (p ∈ xs) || k.any fun q => decide (q.1 = (Sum.inl p : Key))) := by
    intro xs
    induction xs with
    | nil => intro k; simp
    | cons a r ih =>
      intro k
      rw [List.foldl_cons, ih, putD_any]
      by_cases h : a = p
      · subst h; simp
      · have : ¬ p = a := fun z => h z.symm
        simp [h, this]
  have := gen xs []
  simpa [seenD] using this
theorem seen_len (xs : List Int) : (seenD xs).length ≤ xs.length := by
  have gen : ∀ (xs : List Int) (k : List (Key × D)), (xs.foldl (fun k x => putD k (.inl x) (.bl true)) k).length ≤ k.length + xs.length := by
    intro xs
    induction xs with
    | nil => intro k; simp
    | cons a r ih =>
      intro k
      have h1 := ih (putD k (.inl a) (.bl true))
      have h2 := putD_len k (.inl a) (.bl true)
      simp only [List.foldl_cons, List.length_cons]
      omega
  have := gen xs []
  simpa [seenD] using this
/-- the terms that look -/
def Ru.lookers (r : Ru) : List Tm := r.terms.filter fun t => !t.isRest
/-- the places looked at from the first i places -/
def Ru.met (r : Ru) (row : List Int) : Nat → List Int
  | 0 => []
  | i + 1 => Ru.met r row i ++ if i < r.first.length then [] else r.lookers.map fun t => (t.place (row.take i)).getD 0
theorem lookers_len (r : Ru) : r.lookers.length ≤ r.terms.length := List.length_filter_le ..
theorem met_len (r : Ru) (row : List Int) : ∀ i, (r.met row i).length ≤ i * r.terms.length
  | 0 => by simp [Ru.met]
  | i + 1 => by
    have := met_len r row i
    have h2 := lookers_len r
    rw [Nat.succ_mul]
    simp only [Ru.met, List.length_append]
    split
    · simp; omega
    · rw [List.length_map]; omega
/-- the places nobody looks at -/
def Ru.never (r : Ru) (row : List Int) : List Int := (rangeI 1 (row.length + 1)).filter fun p => !decide (p ∈ r.met row row.length)
theorem met_first (r : Ru) (row : List Int) : ∀ i, i ≤ r.first.length → r.met row i = []
  | 0, _ => rfl
  | i + 1, h => by simp only [Ru.met]; rw [met_first r row i (by omega), if_pos (by omega)]; rfl
local macro_rules | `(tactic| walk_at "wp") => `(tactic| try simp (disch := first | assumption | omega) only [↓DL.H_ok, ↓DL.H_bind, ↓DL.H_opt, ↓DL.optK_some, ↓DL.optK_ite, ↓DL.condK_true, ↓DL.condK_false, ↓DL.condK_dec, ↓DL.condK_not, ↓DL.varK_fro, ↓DL.varK_own, ↓DL.callR_ok, ↓DL.callR_exc, ↓DL.e_var, ↓DL.e_glob, ↓DL.e_int, ↓DL.e_bl, ↓DL.e_str, ↓DL.e_non, ↓DL.e_bin, ↓DL.e_neg, ↓DL.H_asBl, ↓DL.e_not, ↓DL.e_and, ↓DL.e_or, ↓DL.e_and1, ↓DL.e_or1, ↓DL.H_if, ↓DL.e_and2, ↓DL.e_or2, ↓DL.e_cmp, ↓DL.e_chain, ↓DL.e_isN, ↓DL.e_isB, ↓DL.e_ife, ↓DL.H_ite, ↓DL.e_tup, ↓DL.e_lst, ↓DL.e_dic0, ↓DL.e_fz0, ↓DL.e_fz, ↓DL.e_es0, ↓DL.e_es, ↓DL.e_ix, ↓DL.e_slice, ↓DL.e_o0, ↓DL.e_o, ↓DL.e_bi, ↓DL.e_isi, ↓DL.e_meth, ↓DL.e_call, ↓DL.e_revs, ↓DL.e_orT, ↓DL.e_setf, ↓DL.HO_out, ↓DL.x_nil, ↓DL.x_cons, ↓DL.HO_nx, ↓DL.HO_if, ↓DL.HO_ite, ↓DL.x_asg, ↓DL.x_expr, ↓DL.x_ret, ↓DL.x_ite, ↓DL.x_pass, ↓DL.x_brk, ↓DL.x_raise, ↓DL.x_par, ↓DL.x_asgT, ↓DL.x_append', ↓DL.x_extend', ↓DL.x_setix', ↓DL.s_seq, ↓DL.s_rng1, ↓DL.s_rng2, ↓DL.s_enum, ↓DL.s_zip, ↓DL.c_none, ↓DL.c_some, DL.seqL_lst, DL.seqL_tup, DL.enumL_lst, DL.zipL_lst, DL.zipL_tup, DL.rngD_ok, DL.len_rangeI, DL.stK_mk, DL.put_fro, DL.put_fre, DL.put_bor, DL.fz_fro, DL.fz_fre, DL.fz_bor, DL.set_mk, DL.wipe_nil, DL.wipe_cons, DL.bindT_nm, DL.bindT_tp, DL.frz_mk, DL.frzC_own, DL.frzC_fro, DL.fzs_nil, DL.fzs_cons, DL.add_int, DL.add_lst, DL.add_tup, DL.sub_int, DL.mul_int, DL.mul_lst, DL.mul_tup, DL.fdiv_int, DL.md_int, DL.lt_int, DL.le_int, DL.gt_int, DL.ge_int, DL.eq_any, DL.ne_any, DL.isin_any, DL.notin_any, DL.blOf_bl, DL.intOf_int, DL.len_lst, DL.len_tup, DL.len_scr, DL.ix_lst, DL.ix_tup, DL.ix_scr, DL.ix_dic, DL.eq_int, DL.eq_lints, DL.eq_lints_nil, DL.scr_eq_nil, DL.imm_int, DL.imm_bl, DL.imm_non, DL.imm_str, DL.imm_lst, DL.imm_tup, DL.imms_nil, DL.imms_cons, DL.imms_ints, DL.own_fro, DL.own_fre, DL.own_bor, DL.ownB_own, DL.ownB_fro, DL.clOf_fro, DL.clOf_fre, DL.clOf_bor, DL.isNon_non, DL.isNon_int, DL.isNon_tup, DL.isNon_lst, DL.isNon_str, DL.slice_lst, DL.slice_tup, DL.list_lst, DL.list_tup, DL.tuple_lst, DL.tuple_tup, DL.sum_lst, DL.sum_tup, DL.all_lst, DL.max_int, DL.min_int, DL.abs_int, DL.int_bl, DL.int_int, DL.intsOf_map, DL.blsOf_map, DL.truD_lst, DL.setD_len, DL.setD_srt, DL.sorted_lst, DL.sorted_dic, DL.get1_dic, DL.get2_dic, DL.count_lst, DL.recv_get, DL.recv_count, DL.recv_index, DL.keyOf_int, DL.keyOf_str, DL.appK_own, DL.extK_own, DL.setK_dic, DL.setK_lst, DL.isOwnL_own, DL.isOwn_own, DL.isi_ii, DL.isi_ib, DL.isi_tt, DL.isi_ss, DL.isi_ll, DL.isi_bi, DL.isi_bb, DL.isi_lt, DL.isi_tl, DL.at0, DL.at1, DL.at2, DL.last1, DL.last2, DL.last3, DL.at_ints, DL.encO_some, DL.encO_none, CRes.ok.injEq, D.bl.injEq, D.int.injEq, D.lst.injEq, D.tup.injEq, D.str.injEq, DL.ints_inj, Prod.mk.injEq, if_true, if_false, Bool.false_eq_true, Bool.true_eq_false, Bool.and_true, Bool.true_and, Bool.and_self, Bool.and_false, Bool.false_and, List.length_cons, List.length_nil, List.length_map, Nat.reduceAdd, Nat.reduceLeDiff, true_and, and_true, List.zip_cons_cons, List.zip_nil_right, List.foldl_cons, List.foldl_nil, bne_self_eq_false, Bool.bne_false, Bool.bne_true, Bool.not_false, Bool.not_true, Option.map_none, List.cons_append, List.nil_append, Nat.reduceLT, or_self, and_self, or_true, true_or, or_false, false_or, and_false, false_and, Int.cast_ofNat_Int, Int.reduceLT, Int.reduceLE, Int.reduceEq, Int.reduceNeg, Int.reduceAdd, Int.reduceSub, Int.reduceToNat, true_imp_iff, false_imp_iff, not_true_eq_false, not_false_eq_true, Bool.not_eq_true, Bool.not_eq_false, List.getElem?_cons_succ, List.getElem?_cons_zero, List.set_cons_zero, List.set_cons_succ, List.map_cons, List.map_nil, List.drop_zero, List.take_zero, DL.omap, DL.obind, eq_self, decide_true, decide_false, decide_eq_true_eq, decide_eq_false_iff_not, imp_false, Classical.not_not, reduceCtorEq, implies_true, DL.sq_at_at, DL.sq_at_of, DL.sq_at_back, DL.sq_at_rest, DL.sq_of_at, DL.sq_of_of, DL.sq_of_back, DL.sq_of_rest, DL.sq_back_at, DL.sq_back_of, DL.sq_back_back, DL.sq_back_rest, DL.sq_rest_at, DL.sq_rest_of, DL.sq_rest_back, DL.sq_rest_rest, DL.imm_ru, DL.imm_enc, DL.imm_encO, DL.imm_pt, DL.imms_enc, DL.run_pk, DL.run_look_rule, DL.run_look_many, DL.cut_takeI, DL.in_dicI, DL.in_lints, DL.seen_get])
local macro_rules | `(tactic| walk_at "ws") => `(tactic| try simp (disch := first | assumption | omega) only [↓DL.H_ok, ↓DL.H_bind, ↓DL.H_opt, ↓DL.optK_some, ↓DL.optK_ite, ↓DL.condK_true, ↓DL.condK_false, ↓DL.condK_dec, ↓DL.condK_not, ↓DL.varK_fro, ↓DL.varK_own, ↓DL.callR_ok, ↓DL.callR_exc, ↓DL.e_var, ↓DL.e_glob, ↓DL.e_int, ↓DL.e_bl, ↓DL.e_str, ↓DL.e_non, ↓DL.e_bin, ↓DL.e_neg, ↓DL.H_asBl, ↓DL.e_not, ↓DL.e_and, ↓DL.e_or, ↓DL.e_and1, ↓DL.e_or1, ↓DL.H_if, ↓DL.e_and2, ↓DL.e_or2, ↓DL.e_cmp, ↓DL.e_chain, ↓DL.e_isN, ↓DL.e_isB, ↓DL.e_ife, ↓DL.H_ite, ↓DL.e_tup, ↓DL.e_lst, ↓DL.e_dic0, ↓DL.e_fz0, ↓DL.e_fz, ↓DL.e_es0, ↓DL.e_es, ↓DL.e_ix, ↓DL.e_slice, ↓DL.e_o0, ↓DL.e_o, ↓DL.e_bi, ↓DL.e_isi, ↓DL.e_meth, ↓DL.e_call, ↓DL.e_revs, ↓DL.e_orT, ↓DL.e_setf, ↓DL.HO_out, ↓DL.x_nil, ↓DL.x_cons, ↓DL.HO_nx, ↓DL.HO_if, ↓DL.HO_ite, ↓DL.x_asg, ↓DL.x_expr, ↓DL.x_ret, ↓DL.x_ite, ↓DL.x_pass, ↓DL.x_brk, ↓DL.x_raise, ↓DL.x_par, ↓DL.x_asgT, ↓DL.x_append', ↓DL.x_extend', ↓DL.x_setix', ↓DL.s_seq, ↓DL.s_rng1, ↓DL.s_rng2, ↓DL.s_enum, ↓DL.s_zip, ↓DL.c_none, ↓DL.c_some, DL.seqL_lst, DL.seqL_tup, DL.enumL_lst, DL.zipL_lst, DL.zipL_tup, DL.rngD_ok, DL.len_rangeI, DL.stK_mk, DL.put_fro, DL.put_fre, DL.put_bor, DL.fz_fro, DL.fz_fre, DL.fz_bor, DL.set_mk, DL.wipe_nil, DL.wipe_cons, DL.bindT_nm, DL.bindT_tp, DL.frz_mk, DL.frzC_own, DL.frzC_fro, DL.fzs_nil, DL.fzs_cons, DL.add_int, DL.add_lst, DL.add_tup, DL.sub_int, DL.mul_int, DL.mul_lst, DL.mul_tup, DL.fdiv_int, DL.md_int, DL.lt_int, DL.le_int, DL.gt_int, DL.ge_int, DL.eq_any, DL.ne_any, DL.isin_any, DL.notin_any, DL.blOf_bl, DL.intOf_int, DL.len_lst, DL.len_tup, DL.len_scr, DL.ix_lst, DL.ix_tup, DL.ix_scr, DL.ix_dic, DL.eq_int, DL.eq_lints, DL.eq_lints_nil, DL.scr_eq_nil, DL.imm_int, DL.imm_bl, DL.imm_non, DL.imm_str, DL.imm_lst, DL.imm_tup, DL.imms_nil, DL.imms_cons, DL.imms_ints, DL.own_fro, DL.own_fre, DL.own_bor, DL.ownB_own, DL.ownB_fro, DL.clOf_fro, DL.clOf_fre, DL.clOf_bor, DL.isNon_non, DL.isNon_int, DL.isNon_tup, DL.isNon_lst, DL.isNon_str, DL.slice_lst, DL.slice_tup, DL.list_lst, DL.list_tup, DL.tuple_lst, DL.tuple_tup, DL.sum_lst, DL.sum_tup, DL.all_lst, DL.max_int, DL.min_int, DL.abs_int, DL.int_bl, DL.int_int, DL.intsOf_map, DL.blsOf_map, DL.truD_lst, DL.setD_len, DL.setD_srt, DL.sorted_lst, DL.sorted_dic, DL.get1_dic, DL.get2_dic, DL.count_lst, DL.recv_get, DL.recv_count, DL.recv_index, DL.keyOf_int, DL.keyOf_str, DL.appK_own, DL.extK_own, DL.setK_dic, DL.setK_lst, DL.isOwnL_own, DL.isOwn_own, DL.isi_ii, DL.isi_ib, DL.isi_tt, DL.isi_ss, DL.isi_ll, DL.isi_bi, DL.isi_bb, DL.isi_lt, DL.isi_tl, DL.at0, DL.at1, DL.at2, DL.last1, DL.last2, DL.last3, DL.at_ints, DL.encO_some, DL.encO_none, CRes.ok.injEq, D.bl.injEq, D.int.injEq, D.lst.injEq, D.tup.injEq, D.str.injEq, DL.ints_inj, Prod.mk.injEq, if_true, if_false, Bool.false_eq_true, Bool.true_eq_false, Bool.and_true, Bool.true_and, Bool.and_self, Bool.and_false, Bool.false_and, List.length_cons, List.length_nil, List.length_map, Nat.reduceAdd, Nat.reduceLeDiff, true_and, and_true, List.zip_cons_cons, List.zip_nil_right, List.foldl_cons, List.foldl_nil, bne_self_eq_false, Bool.bne_false, Bool.bne_true, Bool.not_false, Bool.not_true, Option.map_none, List.cons_append, List.nil_append, Nat.reduceLT, or_self, and_self, or_true, true_or, or_false, false_or, and_false, false_and, Int.cast_ofNat_Int, Int.reduceLT, Int.reduceLE, Int.reduceEq, Int.reduceNeg, Int.reduceAdd, Int.reduceSub, Int.reduceToNat, true_imp_iff, false_imp_iff, not_true_eq_false, not_false_eq_true, Bool.not_eq_true, Bool.not_eq_false, List.getElem?_cons_succ, List.getElem?_cons_zero, List.set_cons_zero, List.set_cons_succ, List.map_cons, List.map_nil, List.drop_zero, List.take_zero, DL.omap, DL.obind, eq_self, decide_true, decide_false, decide_eq_true_eq, decide_eq_false_iff_not, imp_false, Classical.not_not, reduceCtorEq, implies_true, DL.sq_at_at, DL.sq_at_of, DL.sq_at_back, DL.sq_at_rest, DL.sq_of_at, DL.sq_of_of, DL.sq_of_back, DL.sq_of_rest, DL.sq_back_at, DL.sq_back_of, DL.sq_back_back, DL.sq_back_rest, DL.sq_rest_at, DL.sq_rest_of, DL.sq_rest_back, DL.sq_rest_rest, DL.imm_ru, DL.imm_enc, DL.imm_encO, DL.imm_pt, DL.imms_enc, DL.run_pk, DL.run_look_rule, DL.run_look_many, DL.cut_takeI, DL.in_dicI, DL.in_lints, DL.seen_get, *])
local macro_rules | `(tactic| walk_at "wi") => `(tactic| try simp (disch := first | assumption | omega) only [↓DL.H_ok, ↓DL.H_bind, ↓DL.H_opt, ↓DL.optK_some, ↓DL.optK_ite, ↓DL.condK_true, ↓DL.condK_false, ↓DL.condK_dec, ↓DL.condK_not, ↓DL.varK_fro, ↓DL.varK_own, ↓DL.callR_ok, ↓DL.callR_exc, ↓DL.e_var, ↓DL.e_glob, ↓DL.e_int, ↓DL.e_bl, ↓DL.e_str, ↓DL.e_non, ↓DL.e_bin, ↓DL.e_neg, ↓DL.H_asBl, ↓DL.e_not, ↓DL.e_and, ↓DL.e_or, ↓DL.e_and1, ↓DL.e_or1, ↓DL.H_if, ↓DL.e_and2, ↓DL.e_or2, ↓DL.e_cmp, ↓DL.e_chain, ↓DL.e_isN, ↓DL.e_isB, ↓DL.H_ite, ↓DL.e_tup, ↓DL.e_lst, ↓DL.e_dic0, ↓DL.e_fz0, ↓DL.e_fz, ↓DL.e_es0, ↓DL.e_es, ↓DL.e_ix, ↓DL.e_slice, ↓DL.e_o0, ↓DL.e_o, ↓DL.e_bi, ↓DL.e_isi, ↓DL.e_meth, ↓DL.e_call, ↓DL.e_revs, ↓DL.e_orT, ↓DL.e_setf, ↓DL.HO_out, ↓DL.x_nil, ↓DL.x_cons, ↓DL.HO_nx, ↓DL.HO_if, ↓DL.HO_ite, ↓DL.x_asg, ↓DL.x_expr, ↓DL.x_ret, ↓DL.x_pass, ↓DL.x_brk, ↓DL.x_raise, ↓DL.x_par, ↓DL.x_asgT, ↓DL.x_append', ↓DL.x_extend', ↓DL.x_setix', ↓DL.s_seq, ↓DL.s_rng1, ↓DL.s_rng2, ↓DL.s_enum, ↓DL.s_zip, ↓DL.c_none, ↓DL.c_some, DL.seqL_lst, DL.seqL_tup, DL.enumL_lst, DL.zipL_lst, DL.zipL_tup, DL.rngD_ok, DL.len_rangeI, DL.stK_mk, DL.put_fro, DL.put_fre, DL.put_bor, DL.fz_fro, DL.fz_fre, DL.fz_bor, DL.set_mk, DL.wipe_nil, DL.wipe_cons, DL.bindT_nm, DL.bindT_tp, DL.frz_mk, DL.frzC_own, DL.frzC_fro, DL.fzs_nil, DL.fzs_cons, DL.add_int, DL.add_lst, DL.add_tup, DL.sub_int, DL.mul_int, DL.mul_lst, DL.mul_tup, DL.fdiv_int, DL.md_int, DL.lt_int, DL.le_int, DL.gt_int, DL.ge_int, DL.eq_any, DL.ne_any, DL.isin_any, DL.notin_any, DL.blOf_bl, DL.intOf_int, DL.len_lst, DL.len_tup, DL.len_scr, DL.ix_lst, DL.ix_tup, DL.ix_scr, DL.ix_dic, DL.eq_int, DL.eq_lints, DL.eq_lints_nil, DL.scr_eq_nil, DL.imm_int, DL.imm_bl, DL.imm_non, DL.imm_str, DL.imm_lst, DL.imm_tup, DL.imms_nil, DL.imms_cons, DL.imms_ints, DL.own_fro, DL.own_fre, DL.own_bor, DL.ownB_own, DL.ownB_fro, DL.clOf_fro, DL.clOf_fre, DL.clOf_bor, DL.isNon_non, DL.isNon_int, DL.isNon_tup, DL.isNon_lst, DL.isNon_str, DL.slice_lst, DL.slice_tup, DL.list_lst, DL.list_tup, DL.tuple_lst, DL.tuple_tup, DL.sum_lst, DL.sum_tup, DL.all_lst, DL.max_int, DL.min_int, DL.abs_int, DL.int_bl, DL.int_int, DL.intsOf_map, DL.blsOf_map, DL.truD_lst, DL.setD_len, DL.setD_srt, DL.sorted_lst, DL.sorted_dic, DL.get1_dic, DL.get2_dic, DL.count_lst, DL.recv_get, DL.recv_count, DL.recv_index, DL.keyOf_int, DL.keyOf_str, DL.appK_own, DL.extK_own, DL.setK_dic, DL.setK_lst, DL.isOwnL_own, DL.isOwn_own, DL.isi_ii, DL.isi_ib, DL.isi_tt, DL.isi_ss, DL.isi_ll, DL.isi_bi, DL.isi_bb, DL.isi_lt, DL.isi_tl, DL.at0, DL.at1, DL.at2, DL.last1, DL.last2, DL.last3, DL.at_ints, DL.encO_some, DL.encO_none, CRes.ok.injEq, D.bl.injEq, D.int.injEq, D.lst.injEq, D.tup.injEq, D.str.injEq, DL.ints_inj, Prod.mk.injEq, if_true, if_false, Bool.false_eq_true, Bool.true_eq_false, Bool.and_true, Bool.true_and, Bool.and_self, Bool.and_false, Bool.false_and, List.length_cons, List.length_nil, List.length_map, Nat.reduceAdd, Nat.reduceLeDiff, true_and, and_true, List.zip_cons_cons, List.zip_nil_right, List.foldl_cons, List.foldl_nil, bne_self_eq_false, Bool.bne_false, Bool.bne_true, Bool.not_false, Bool.not_true, Option.map_none, List.cons_append, List.nil_append, Nat.reduceLT, or_self, and_self, or_true, true_or, or_false, false_or, and_false, false_and, Int.cast_ofNat_Int, Int.reduceLT, Int.reduceLE, Int.reduceEq, Int.reduceNeg, Int.reduceAdd, Int.reduceSub, Int.reduceToNat, true_imp_iff, false_imp_iff, not_true_eq_false, not_false_eq_true, Bool.not_eq_true, Bool.not_eq_false, List.getElem?_cons_succ, List.getElem?_cons_zero, List.set_cons_zero, List.set_cons_succ, List.map_cons, List.map_nil, List.drop_zero, List.take_zero, DL.omap, DL.obind, eq_self, decide_true, decide_false, decide_eq_true_eq, decide_eq_false_iff_not, imp_false, Classical.not_not, reduceCtorEq, implies_true, DL.sq_at_at, DL.sq_at_of, DL.sq_at_back, DL.sq_at_rest, DL.sq_of_at, DL.sq_of_of, DL.sq_of_back, DL.sq_of_rest, DL.sq_back_at, DL.sq_back_of, DL.sq_back_back, DL.sq_back_rest, DL.sq_rest_at, DL.sq_rest_of, DL.sq_rest_back, DL.sq_rest_rest, DL.imm_ru, DL.imm_enc, DL.imm_encO, DL.imm_pt, DL.imms_enc, DL.run_pk, DL.run_look_rule, DL.run_look_many, DL.cut_takeI, DL.in_dicI, DL.in_lints, DL.seen_get])
local macro_rules | `(tactic| walk_at "wj") => `(tactic| try simp (disch := first | assumption | omega) only [↓DL.H_ok, ↓DL.H_bind, ↓DL.H_opt, ↓DL.optK_some, ↓DL.optK_ite, ↓DL.condK_true, ↓DL.condK_false, ↓DL.condK_dec, ↓DL.condK_not, ↓DL.varK_fro, ↓DL.varK_own, ↓DL.callR_ok, ↓DL.callR_exc, ↓DL.e_var, ↓DL.e_glob, ↓DL.e_int, ↓DL.e_bl, ↓DL.e_str, ↓DL.e_non, ↓DL.e_bin, ↓DL.e_neg, ↓DL.H_asBl, ↓DL.e_not, ↓DL.e_and, ↓DL.e_or, ↓DL.e_and1, ↓DL.e_or1, ↓DL.H_if, ↓DL.e_and2, ↓DL.e_or2, ↓DL.e_cmp, ↓DL.e_chain, ↓DL.e_isN, ↓DL.e_isB, ↓DL.H_ite, ↓DL.e_tup, ↓DL.e_lst, ↓DL.e_dic0, ↓DL.e_fz0, ↓DL.e_fz, ↓DL.e_es0, ↓DL.e_es, ↓DL.e_ix, ↓DL.e_slice, ↓DL.e_o0, ↓DL.e_o, ↓DL.e_bi, ↓DL.e_isi, ↓DL.e_meth, ↓DL.e_call, ↓DL.e_revs, ↓DL.e_orT, ↓DL.e_setf, ↓DL.HO_out, ↓DL.x_nil, ↓DL.x_cons, ↓DL.HO_nx, ↓DL.HO_if, ↓DL.HO_ite, ↓DL.x_asg, ↓DL.x_expr, ↓DL.x_ret, ↓DL.x_pass, ↓DL.x_brk, ↓DL.x_raise, ↓DL.x_par, ↓DL.x_asgT, ↓DL.x_append', ↓DL.x_extend', ↓DL.x_setix', ↓DL.s_seq, ↓DL.s_rng1, ↓DL.s_rng2, ↓DL.s_enum, ↓DL.s_zip, ↓DL.c_none, ↓DL.c_some, DL.seqL_lst, DL.seqL_tup, DL.enumL_lst, DL.zipL_lst, DL.zipL_tup, DL.rngD_ok, DL.len_rangeI, DL.stK_mk, DL.put_fro, DL.put_fre, DL.put_bor, DL.fz_fro, DL.fz_fre, DL.fz_bor, DL.set_mk, DL.wipe_nil, DL.wipe_cons, DL.bindT_nm, DL.bindT_tp, DL.frz_mk, DL.frzC_own, DL.frzC_fro, DL.fzs_nil, DL.fzs_cons, DL.add_int, DL.add_lst, DL.add_tup, DL.sub_int, DL.mul_int, DL.mul_lst, DL.mul_tup, DL.fdiv_int, DL.md_int, DL.lt_int, DL.le_int, DL.gt_int, DL.ge_int, DL.eq_any, DL.ne_any, DL.isin_any, DL.notin_any, DL.blOf_bl, DL.intOf_int, DL.len_lst, DL.len_tup, DL.len_scr, DL.ix_lst, DL.ix_tup, DL.ix_scr, DL.ix_dic, DL.eq_int, DL.eq_lints, DL.eq_lints_nil, DL.scr_eq_nil, DL.imm_int, DL.imm_bl, DL.imm_non, DL.imm_str, DL.imm_lst, DL.imm_tup, DL.imms_nil, DL.imms_cons, DL.imms_ints, DL.own_fro, DL.own_fre, DL.own_bor, DL.ownB_own, DL.ownB_fro, DL.clOf_fro, DL.clOf_fre, DL.clOf_bor, DL.isNon_non, DL.isNon_int, DL.isNon_tup, DL.isNon_lst, DL.isNon_str, DL.slice_lst, DL.slice_tup, DL.list_lst, DL.list_tup, DL.tuple_lst, DL.tuple_tup, DL.sum_lst, DL.sum_tup, DL.all_lst, DL.max_int, DL.min_int, DL.abs_int, DL.int_bl, DL.int_int, DL.intsOf_map, DL.blsOf_map, DL.truD_lst, DL.setD_len, DL.setD_srt, DL.sorted_lst, DL.sorted_dic, DL.get1_dic, DL.get2_dic, DL.count_lst, DL.recv_get, DL.recv_count, DL.recv_index, DL.keyOf_int, DL.keyOf_str, DL.appK_own, DL.extK_own, DL.setK_dic, DL.setK_lst, DL.isOwnL_own, DL.isOwn_own, DL.isi_ii, DL.isi_ib, DL.isi_tt, DL.isi_ss, DL.isi_ll, DL.isi_bi, DL.isi_bb, DL.isi_lt, DL.isi_tl, DL.at0, DL.at1, DL.at2, DL.last1, DL.last2, DL.last3, DL.at_ints, DL.encO_some, DL.encO_none, CRes.ok.injEq, D.bl.injEq, D.int.injEq, D.lst.injEq, D.tup.injEq, D.str.injEq, DL.ints_inj, Prod.mk.injEq, if_true, if_false, Bool.false_eq_true, Bool.true_eq_false, Bool.and_true, Bool.true_and, Bool.and_self, Bool.and_false, Bool.false_and, List.length_cons, List.length_nil, List.length_map, Nat.reduceAdd, Nat.reduceLeDiff, true_and, and_true, List.zip_cons_cons, List.zip_nil_right, List.foldl_cons, List.foldl_nil, bne_self_eq_false, Bool.bne_false, Bool.bne_true, Bool.not_false, Bool.not_true, Option.map_none, List.cons_append, List.nil_append, Nat.reduceLT, or_self, and_self, or_true, true_or, or_false, false_or, and_false, false_and, Int.cast_ofNat_Int, Int.reduceLT, Int.reduceLE, Int.reduceEq, Int.reduceNeg, Int.reduceAdd, Int.reduceSub, Int.reduceToNat, true_imp_iff, false_imp_iff, not_true_eq_false, not_false_eq_true, Bool.not_eq_true, Bool.not_eq_false, List.getElem?_cons_succ, List.getElem?_cons_zero, List.set_cons_zero, List.set_cons_succ, List.map_cons, List.map_nil, List.drop_zero, List.take_zero, DL.omap, DL.obind, eq_self, decide_true, decide_false, decide_eq_true_eq, decide_eq_false_iff_not, imp_false, Classical.not_not, reduceCtorEq, implies_true, DL.sq_at_at, DL.sq_at_of, DL.sq_at_back, DL.sq_at_rest, DL.sq_of_at, DL.sq_of_of, DL.sq_of_back, DL.sq_of_rest, DL.sq_back_at, DL.sq_back_of, DL.sq_back_back, DL.sq_back_rest, DL.sq_rest_at, DL.sq_rest_of, DL.sq_rest_back, DL.sq_rest_rest, DL.imm_ru, DL.imm_enc, DL.imm_encO, DL.imm_pt, DL.imms_enc, DL.run_pk, DL.run_look_rule, DL.run_look_many, DL.cut_takeI, DL.in_dicI, DL.in_lints, DL.seen_get, *])
theorem run_never_looked {q : Nat} {r : Ru} {m : Int} {w : List WObj} (hr : r.Ok) (h0 : 1 ≤ m) (hm : m ≤ 200) (hq : 12 ≤ q) : run T q kf_p_never_looked [r.enc, .int m] w = .ok (.lst ((r.never (r.row m.toNat)).map .int)) true w := by
  obtain ⟨n, rfl⟩ : ∃ n, q = n + 1 := ⟨q - 1, by omega⟩
  have hf := hr.all
  have hl := row_len r m.toNat
  have hl2 := row_len_first r (m := m.toNat)
  refine run_w T_p_never_looked rfl [.fro r.enc, .fro (.int m), .un, .un, .un, .un] rfl ?_
  unfold fd_p_never_looked
  have er := run_row (n := n) (w := w) hr (show 0 ≤ m by omega) (by omega) (by omega)
  have tms := fun (i : Nat) (h1 : r.first.length ≤ i) (h2 : i < (r.row m.toNat).length) (t : Tm) (ht : t ∈ r.terms) => row_term r h1 h2 ht
  generalize r.row m.toNat = row at *
  walk_at "wp"
  rw [er]
  simp only [Ru.enc]
  walk_at "wp"
  refine x_forT (rangeI (r.first.length + 1) (row.length + 1)) .int (fun s0 i s => ∃ c4 c5, s = ⟨[.fro r.enc, .fro (.int m), .own (.lst (row.map .int)), .own (.dic (seenD (r.met row (r.first.length + i)))), c4, c5], w⟩) ?_
  walk_at "wp"
  refine ⟨⟨.un, .un, by rw [Nat.add_zero, met_first r row _ (Nat.le_refl _)]; rfl⟩, ?_, ?_⟩
  · rintro i x s hx ⟨c4, c5, rfl⟩
    obtain ⟨rfl, hi⟩ := get_rangeI hx
    simp only [Ru.enc]
    refine x_forT r.lookers Tm.enc (fun s0 j s => ∃ c5, s = ⟨[.fro r.enc, .fro (.int m), .own (.lst (row.map .int)), .own (.dic (seenD (r.met row (r.first.length + i) ++ (r.lookers.take j).map fun t => (t.place (row.take (r.first.length + i))).getD 0))), .fro (.int (r.first.length + 1 + i)), c5], w⟩) ?_
    walk_at "wp"
    refine e_lcF r.terms Tm.enc (fun t => !t.isRest) Tm.enc ?_
    walk_at "wp"
    refine ⟨by omega, fun t ht => ?_, ?_⟩
    · obtain ⟨x0, hx0, eq⟩ := tm_ix (t := t)
      rw [hx0]
      walk_at "wp"
      rw [eq]
      walk_at "wp"
    · refine ⟨rfl, ⟨c5, by simp [Ru.enc]⟩, ?_, ?_⟩
      · rintro j t s ht ⟨c5, rfl⟩
        have tm : t ∈ r.terms := (List.mem_filter.mp (List.mem_of_getElem? ht)).1
        have nr : t.isRest = false := by simpa using (List.mem_filter.mp (List.mem_of_getElem? ht)).2
        obtain ⟨y, hy⟩ := tms (r.first.length + i) (by omega) (by omega) t tm
        obtain ⟨p, hp, p1, p2, _⟩ := num_place nr hy
        have hd := hr.dep t tm
        have rp := run_pl (row := row.take (r.first.length + i)) (t := t) (m := n) (w := w) (by omega)
        rw [hp, encO_some, List.map_take] at rp
        walk_at "wp"
        rw [show ((r.first.length : Int) + 1 + i - 1).toNat = r.first.length + i by omega, rp]
        walk_at "wp"
        have l1 := seen_len (r.met row (r.first.length + i) ++ (r.lookers.take j).map fun t => (t.place (row.take (r.first.length + i))).getD 0)
        have l2 := met_len r row (r.first.length + i)
        have l3 := lookers_len r
        have l4 : (r.first.length + i) * r.terms.length ≤ 200 * 3 := Nat.mul_le_mul (by omega) (by omega)
        rw [List.length_append, List.length_map, List.length_take] at l1
        refine ⟨by omega, .fro t.enc, ?_⟩
        rw [take_snoc ht, List.map_append, ← List.append_assoc, List.map_singleton, seen_snoc, hp]
        rfl
      · rintro s ⟨c5, rfl⟩
        refine ⟨.fro (.int (r.first.length + 1 + i)), c5, ?_⟩
        rw [List.take_length, ← Nat.add_assoc]
        simp only [Ru.met]
        rw [if_neg (by omega)]
        rfl
  · rintro s ⟨c4, c5, rfl⟩
    walk_at "wp"
    refine e_lcF (rangeI 1 (row.length + 1)) .int (fun p => !decide (p ∈ r.met row row.length)) .int ?_
    walk_at "wp"
    have em : r.met row (r.first.length + ((row.length : Int) + 1 - (r.first.length + 1)).toNat) = r.met row row.length := by
      by_cases h : r.first.length ≤ row.length
      · congr 1; omega
      · rw [met_first r row _ (by omega), met_first r row _ (by omega)]
    rw [em]
    exact ⟨by omega, fun _ _ => rfl, rfl⟩
end DL

set_option pp.deepTerms.threshold 6
/-! W13: shapes of rows. -/
namespace DL
open PySem L2
theorem e_srtI {C : Call} {s : S} {Q : Val → S → Prop} {E : Nat → S → Prop} {a : DE} : H (evalE C (.srtI a) s) Q E = H (evalE C a s) (fun x s => optK (itemsD x.1) s Q) E := by
  simp only [evalE, H_bind]
  exact H_ext fun x s => H_opt
theorem e_lrng {C : Call} {s : S} {Q : Val → S → Prop} {E : Nat → S → Prop} {a b : DE} : H (evalE C (.lrng a b) s) Q E = H (evalE C a s) (fun x s => H (evalE C b s) (fun y s => optK ((intOf x.1).bind fun m => (intOf y.1).bind fun n => lrngD m n) s Q) E) E := by
  simp only [evalE, H_bind]
  exact H_ext fun x s => H_bind.trans (H_ext fun y s => H_opt)
theorem items_dic {kds : List (Key × D)} : itemsD (.dic kds) = (pairsK kds).map fun ps => (.lst ((sortP ps).map encP), .fre) := nr rfl
theorem lrng_ok {lo hi : Int} (h1 : 0 ≤ lo) (h2 : lo ≤ 16777216) (h3 : 0 ≤ hi) (h4 : hi ≤ 16777216) : lrngD lo hi = some (.lst ((rangeI lo hi).map .int), .fre) := by
  unfold lrngD rangeI
  have el : LEN = 16777216 := rfl
  rw [if_pos (by omega), List.map_map]
  rfl
/-! counting -/
def encK (ps : List (Int × Int)) : List (Key × D) := ps.map fun p => (Sum.inl p.1, D.int p.2)
theorem pairsK_enc : ∀ ps : List (Int × Int), pairsK (encK ps) = some ps
  | [] => rfl
  | p :: r => by
    show (pairsK (encK r)).map _ = _
    rw [pairsK_enc r]
    rfl
def putP (ps : List (Int × Int)) (x c : Int) : List (Int × Int) := if (ps.any fun p => decide (p.1 = x)) = true then ps.map (fun p => if p.1 = x then (p.1, c) else p) else ps ++ [(x, c)]
theorem putP_len (ps : List (Int × Int)) (x c : Int) : (putP ps x c).length ≤ ps.length + 1 := by
  unfold putP
  split <;> simp
theorem encK_any (ps : List (Int × Int)) (x : Int) : ((encK ps).any fun p => decide (p.1 = (Sum.inl x : Key))) = ps.any fun p => decide (p.1 = x) := by
  unfold encK
  rw [List.any_map]
  congr 1
  funext p
  simp [Function.comp]
theorem put_enc (ps : List (Int × Int)) (x c : Int) : putD (encK ps) (.inl x) (.int c) = encK (putP ps x c) := by
  unfold putD putP
  rw [encK_any]
  split
  · unfold encK
    rw [List.map_map, List.map_map]
    refine List.map_congr_left fun p _ => ?_
    simp only [Function.comp, Sum.inl.injEq]
    split <;> rfl
  · unfold encK
    rw [List.map_append]
    rfl
theorem nodup_of {α β : Type} {f : α → β} {l : List α} (h : (l.map f).Nodup) : l.Nodup := (List.pairwise_map.mp h).imp fun {a b} hh e => hh (by rw [e])
/-- how often each number stands in a row, as pairs -/
structure Cnt (row : List Int) (ps : List (Int × Int)) : Prop where
  nd : (ps.map (·.1)).Nodup
  mem : ∀ x n, (x, n) ∈ ps ↔ x ∈ row ∧ n = (row.count x : Nat)
theorem cnt_nil : Cnt [] [] := ⟨List.nodup_nil, fun x n => by simp⟩
theorem any_key {ps : List (Int × Int)} {x : Int} : (ps.any fun p => decide (p.1 = x)) = true ↔ ∃ n, (x, n) ∈ ps := by
  rw [List.any_eq_true]
  constructor
  · rintro ⟨⟨a, b⟩, h1, h2⟩
    simp only [decide_eq_true_eq] at h2
    subst h2
    exact ⟨b, h1⟩
  · rintro ⟨n, h⟩
    exact ⟨_, h, by simp⟩
theorem cnt_get {row : List Int} {ps : List (Int × Int)} (h : Cnt row ps) (x : Int) : (getD' (encK ps) (.inl x)).getD (.int 0) = .int (row.count x : Nat) := by
  cases q : getD' (encK ps) (.inl x) with
  | none =>
    have a := DL.getD_any (.inl x) (encK ps)
    rw [q, encK_any] at a
    have : ¬ x ∈ row := fun z => by
      have := any_key.mpr ⟨_, (h.mem x _).mpr ⟨z, rfl⟩⟩
      rw [a] at this
      cases this
    rw [List.count_eq_zero_of_not_mem this]
    rfl
  | some d =>
    unfold getD' at q
    obtain ⟨⟨k, d'⟩, h1, h2⟩ := Option.map_eq_some_iff.mp q
    have m := List.mem_of_find?_eq_some h1
    have e := List.find?_some h1
    simp only [decide_eq_true_eq] at e h2
    subst e h2
    obtain ⟨p, hp, e⟩ := List.mem_map.mp m
    cases e
    have := (h.mem p.1 p.2).mp hp
    rw [← this.2]
    rfl
theorem cnt_step {row : List Int} {ps : List (Int × Int)} (h : Cnt row ps) (x : Int) : Cnt (row ++ [x]) (putP ps x ((row.count x : Nat) + 1)) := by
  have key : (ps.any fun p => decide (p.1 = x)) = true ↔ x ∈ row := any_key.trans ⟨fun ⟨n, hn⟩ => ((h.mem x n).mp hn).1, fun hx => ⟨_, (h.mem x _).mpr ⟨hx, rfl⟩⟩⟩
  have cx : (row ++ [x]).count x = row.count x + 1 := by simp
  have cy : ∀ y, y ≠ x → (row ++ [x]).count y = row.count y := fun y hy => by
    rw [List.count_append]
    have : [x].count y = 0 := List.count_eq_zero_of_not_mem (by simpa using hy)
    omega
  unfold putP
  by_cases hx : x ∈ row
  · rw [if_pos (key.mpr hx)]
    refine ⟨?_, fun y n => ?_⟩
    · have e : (ps.map fun p => if p.1 = x then (p.1, ((row.count x : Nat) : Int) + 1) else p).map (·.1) = ps.map (·.1) := by
        rw [List.map_map]
        refine List.map_congr_left fun p _ => ?_
        simp only [Function.comp]
        split <;> rfl
      rw [e]
      exact h.nd
    · rw [List.mem_map]
      constructor
      · rintro ⟨⟨a, b⟩, hp, e⟩
        have m := (h.mem a b).mp hp
        simp only at e
        split at e
        · rename_i ea
          cases e
          subst ea
          exact ⟨by simp, by rw [cx]; rfl⟩
        · rename_i ea
          cases e
          exact ⟨by simp [m.1], by rw [cy _ ea]; exact m.2⟩
      · rintro ⟨h1, h2⟩
        by_cases ey : y = x
        · subst ey
          refine ⟨(y, (row.count y : Nat)), (h.mem _ _).mpr ⟨hx, rfl⟩, ?_⟩
          rw [if_pos rfl, h2, cx]
          rfl
        · refine ⟨(y, n), (h.mem _ _).mpr ⟨by simpa [ey] using h1, by rw [h2, cy y ey]⟩, if_neg ey⟩
  · rw [if_neg (fun z => hx (key.mp z))]
    have c0 : row.count x = 0 := List.count_eq_zero_of_not_mem hx
    refine ⟨?_, fun y n => ?_⟩
    · rw [List.map_append, List.map_singleton]
      refine List.nodup_append.mpr ⟨h.nd, by simp, fun a ha b hb => ?_⟩
      rw [List.mem_singleton] at hb
      subst hb
      obtain ⟨p, hp, rfl⟩ := List.mem_map.mp ha
      exact fun e => hx (e ▸ ((h.mem p.1 p.2).mp hp).1)
    · rw [List.mem_append, List.mem_singleton]
      constructor
      · rintro (hp | e)
        · have m := (h.mem y n).mp hp
          have ne : y ≠ x := fun e => hx (e ▸ m.1)
          exact ⟨by simp [m.1], by rw [cy y ne]; exact m.2⟩
        · cases e
          exact ⟨by simp, by rw [cx]; rfl⟩
      · rintro ⟨h1, h2⟩
        by_cases ey : y = x
        · subst ey
          refine .inr ?_
          rw [h2, cx]
          rfl
        · exact .inl ((h.mem _ _).mpr ⟨by simpa [ey] using h1, by rw [h2, cy y ey]⟩)
/-- how often each number stands there, rising -/
def oftP (row : List Int) : List (Int × Int) := (sortI (onceD row)).map fun x => (x, (row.count x : Nat))
theorem mem_onceD {k : Int} {l : List Int} : k ∈ onceD l ↔ k ∈ l := by rw [onceD_eq]; exact mem_once
theorem nodup_onceD (l : List Int) : (onceD l).Nodup := by rw [onceD_eq]; exact nodup_once l
theorem cnt_sort {row : List Int} {ps : List (Int × Int)} (h : Cnt row ps) : sortP ps = oftP row := by
  have sp := sortI_perm (onceD row)
  have ss := sortI_sorted (onceD row)
  refine lex_sorted_unique ((sortP_perm ps).trans ?_) (sortP_sorted ps) ?_
  · have n1 : ps.Nodup := nodup_of h.nd
    have n2 : (oftP row).Nodup := by
      unfold oftP
      have nn : (sortI (onceD row)).Nodup := (List.Perm.nodup_iff sp).mpr (nodup_onceD row)
      refine nodup_of (f := (·.1)) ?_
      rw [List.map_map]
      have : (sortI (onceD row)).map ((·.1) ∘ fun x => (x, ((row.count x : Nat) : Int))) = sortI (onceD row) := List.map_id _
      rw [this]
      exact nn
    refine (List.perm_ext_iff_of_nodup n1 n2).mpr fun p => ?_
    obtain ⟨x, n⟩ := p
    rw [h.mem]
    unfold oftP
    rw [List.mem_map]
    constructor
    · rintro ⟨h1, h2⟩
      exact ⟨x, sp.mem_iff.mpr (mem_onceD.mpr h1), by rw [h2]⟩
    · rintro ⟨y, h1, e⟩
      cases e
      exact ⟨mem_onceD.mp (sp.mem_iff.mp h1), rfl⟩
  · unfold oftP
    rw [List.pairwise_map]
    have nn : (sortI (onceD row)).Nodup := (List.Perm.nodup_iff sp).mpr (nodup_onceD row)
    refine (ss.and nn).imp fun {a b} hh => ?_
    unfold lexLe
    rw [decide_eq_true_eq]
    left
    show a < b
    have := hh.1
    have := hh.2
    omega
theorem in_01 {a : Int} : inD (.int a) (.tup [.int 0, .int 1]) = some (decide (a = 0 ∨ a = 1)) := by
  have := ints_any a [0, 1]
  simp only [List.map_cons, List.map_nil] at this
  simp only [inD, flat, List.all_cons, List.all_nil, Bool.and_self, if_true]
  rw [this]
  simp
/-- by how much each is greater than the one ahead -/
def stepsM (row : List Int) : List Int := (row.zip (row.drop 1)).map fun p => p.2 - p.1
theorem stepsM_len (row : List Int) : (stepsM row).length = row.length - 1 := by
  unfold stepsM
  rw [List.length_map, List.length_zip, List.length_drop]
  omega
theorem stepsM_get {row : List Int} {i : Nat} (h : i + 1 < row.length) : (stepsM row)[i]? = some (row.getD (i + 1) 0 - row.getD i 0) := by
  unfold stepsM
  have e : (row.zip (row.drop 1))[i]? = some (row.getD i 0, row.getD (i + 1) 0) := by
    rw [List.getElem?_zip_eq_some]
    simp only [List.getD]
    rw [List.getElem?_drop, Nat.add_comm 1 i, List.getElem?_eq_getElem h, List.getElem?_eq_getElem (by omega : i < row.length)]
    exact ⟨rfl, rfl⟩
  rw [List.getElem?_map, e]
  rfl
def fallM (row : List Int) : Option Int := (((stepsM row).zipIdx 0).filter fun p => decide (p.1 < 0)).head?.map fun p => (p.2 : Int) + 2
/-- where a number is greater than all ahead -/
def recM : List Int → Option Int → Nat → List Int
  | [], _, _ => []
  | x :: r, b, i => if (b = none ∨ ∃ y, b = some y ∧ x > y) then ((i : Int) + 1) :: recM r (some x) (i + 1) else recM r b (i + 1)
/-- stretches -/
def runStep (made : List (Int × Int)) (x : Int) : List (Int × Int) := match made.getLast? with
  | some p => if p.1 = x then made.dropLast ++ [(x, p.2 + 1)] else made ++ [(x, 1)]
  | none => [(x, 1)]
def runM (row : List Int) : List (Int × Int) := row.foldl runStep []
local macro_rules | `(tactic| walk_at "wp") => `(tactic| try simp (disch := first | assumption | omega) only [↓DL.H_ok, ↓DL.H_bind, ↓DL.H_opt, ↓DL.optK_some, ↓DL.optK_ite, ↓DL.condK_true, ↓DL.condK_false, ↓DL.condK_dec, ↓DL.condK_not, ↓DL.varK_fro, ↓DL.varK_own, ↓DL.callR_ok, ↓DL.callR_exc, ↓DL.e_var, ↓DL.e_glob, ↓DL.e_int, ↓DL.e_bl, ↓DL.e_str, ↓DL.e_non, ↓DL.e_bin, ↓DL.e_neg, ↓DL.H_asBl, ↓DL.e_not, ↓DL.e_and, ↓DL.e_or, ↓DL.e_and1, ↓DL.e_or1, ↓DL.H_if, ↓DL.e_and2, ↓DL.e_or2, ↓DL.e_cmp, ↓DL.e_chain, ↓DL.e_isN, ↓DL.e_isB, ↓DL.e_ife, ↓DL.H_ite, ↓DL.e_tup, ↓DL.e_lst, ↓DL.e_dic0, ↓DL.e_fz0, ↓DL.e_fz, ↓DL.e_es0, ↓DL.e_es, ↓DL.e_ix, ↓DL.e_slice, ↓DL.e_o0, ↓DL.e_o, ↓DL.e_bi, ↓DL.e_isi, ↓DL.e_meth, ↓DL.e_call, ↓DL.e_revs, ↓DL.e_orT, ↓DL.e_setf, ↓DL.HO_out, ↓DL.x_nil, ↓DL.x_cons, ↓DL.HO_nx, ↓DL.HO_if, ↓DL.HO_ite, ↓DL.x_asg, ↓DL.x_expr, ↓DL.x_ret, ↓DL.x_ite, ↓DL.x_pass, ↓DL.x_brk, ↓DL.x_raise, ↓DL.x_par, ↓DL.x_asgT, ↓DL.x_append', ↓DL.x_extend', ↓DL.x_setix', ↓DL.s_seq, ↓DL.s_rng1, ↓DL.s_rng2, ↓DL.s_enum, ↓DL.s_zip, ↓DL.c_none, ↓DL.c_some, DL.seqL_lst, DL.seqL_tup, DL.enumL_lst, DL.zipL_lst, DL.zipL_tup, DL.rngD_ok, DL.len_rangeI, DL.stK_mk, DL.put_fro, DL.put_fre, DL.put_bor, DL.fz_fro, DL.fz_fre, DL.fz_bor, DL.set_mk, DL.wipe_nil, DL.wipe_cons, DL.bindT_nm, DL.bindT_tp, DL.frz_mk, DL.frzC_own, DL.frzC_fro, DL.fzs_nil, DL.fzs_cons, DL.add_int, DL.add_lst, DL.add_tup, DL.sub_int, DL.mul_int, DL.mul_lst, DL.mul_tup, DL.fdiv_int, DL.md_int, DL.lt_int, DL.le_int, DL.gt_int, DL.ge_int, DL.eq_any, DL.ne_any, DL.isin_any, DL.notin_any, DL.blOf_bl, DL.intOf_int, DL.len_lst, DL.len_tup, DL.len_scr, DL.ix_lst, DL.ix_tup, DL.ix_scr, DL.ix_dic, DL.eq_int, DL.eq_lints, DL.eq_lints_nil, DL.scr_eq_nil, DL.imm_int, DL.imm_bl, DL.imm_non, DL.imm_str, DL.imm_lst, DL.imm_tup, DL.imms_nil, DL.imms_cons, DL.imms_ints, DL.own_fro, DL.own_fre, DL.own_bor, DL.ownB_own, DL.ownB_fro, DL.clOf_fro, DL.clOf_fre, DL.clOf_bor, DL.isNon_non, DL.isNon_int, DL.isNon_tup, DL.isNon_lst, DL.isNon_str, DL.slice_lst, DL.slice_tup, DL.list_lst, DL.list_tup, DL.tuple_lst, DL.tuple_tup, DL.sum_lst, DL.sum_tup, DL.all_lst, DL.max_int, DL.min_int, DL.abs_int, DL.int_bl, DL.int_int, DL.intsOf_map, DL.blsOf_map, DL.truD_lst, DL.setD_len, DL.setD_srt, DL.sorted_lst, DL.sorted_dic, DL.get1_dic, DL.get2_dic, DL.count_lst, DL.recv_get, DL.recv_count, DL.recv_index, DL.keyOf_int, DL.keyOf_str, DL.appK_own, DL.extK_own, DL.setK_dic, DL.setK_lst, DL.isOwnL_own, DL.isOwn_own, DL.isi_ii, DL.isi_ib, DL.isi_tt, DL.isi_ss, DL.isi_ll, DL.isi_bi, DL.isi_bb, DL.isi_lt, DL.isi_tl, DL.at0, DL.at1, DL.at2, DL.last1, DL.last2, DL.last3, DL.at_ints, DL.encO_some, DL.encO_none, CRes.ok.injEq, D.bl.injEq, D.int.injEq, D.lst.injEq, D.tup.injEq, D.str.injEq, DL.ints_inj, Prod.mk.injEq, if_true, if_false, Bool.false_eq_true, Bool.true_eq_false, Bool.and_true, Bool.true_and, Bool.and_self, Bool.and_false, Bool.false_and, List.length_cons, List.length_nil, List.length_map, Nat.reduceAdd, Nat.reduceLeDiff, true_and, and_true, List.zip_cons_cons, List.zip_nil_right, List.foldl_cons, List.foldl_nil, bne_self_eq_false, Bool.bne_false, Bool.bne_true, Bool.not_false, Bool.not_true, Option.map_none, List.cons_append, List.nil_append, Nat.reduceLT, or_self, and_self, or_true, true_or, or_false, false_or, and_false, false_and, Int.cast_ofNat_Int, Int.reduceLT, Int.reduceLE, Int.reduceEq, Int.reduceNeg, Int.reduceAdd, Int.reduceSub, Int.reduceToNat, true_imp_iff, false_imp_iff, not_true_eq_false, not_false_eq_true, Bool.not_eq_true, Bool.not_eq_false, List.getElem?_cons_succ, List.getElem?_cons_zero, List.set_cons_zero, List.set_cons_succ, List.map_cons, List.map_nil, List.drop_zero, List.take_zero, DL.omap, DL.obind, eq_self, decide_true, decide_false, decide_eq_true_eq, decide_eq_false_iff_not, imp_false, Classical.not_not, reduceCtorEq, implies_true, DL.sq_at_at, DL.sq_at_of, DL.sq_at_back, DL.sq_at_rest, DL.sq_of_at, DL.sq_of_of, DL.sq_of_back, DL.sq_of_rest, DL.sq_back_at, DL.sq_back_of, DL.sq_back_back, DL.sq_back_rest, DL.sq_rest_at, DL.sq_rest_of, DL.sq_rest_back, DL.sq_rest_rest, ↓DL.e_srtI, ↓DL.e_lrng, DL.items_dic, DL.pairsK_enc, DL.imm_ru, DL.imm_enc, DL.imm_encO, DL.imm_pt, DL.imms_enc, DL.run_pk, DL.run_look_rule, DL.run_look_many, DL.cut_takeI, DL.cut_dropI, DL.in_lints, DL.in_01])
local macro_rules | `(tactic| walk_at "ws") => `(tactic| try simp (disch := first | assumption | omega) only [↓DL.H_ok, ↓DL.H_bind, ↓DL.H_opt, ↓DL.optK_some, ↓DL.optK_ite, ↓DL.condK_true, ↓DL.condK_false, ↓DL.condK_dec, ↓DL.condK_not, ↓DL.varK_fro, ↓DL.varK_own, ↓DL.callR_ok, ↓DL.callR_exc, ↓DL.e_var, ↓DL.e_glob, ↓DL.e_int, ↓DL.e_bl, ↓DL.e_str, ↓DL.e_non, ↓DL.e_bin, ↓DL.e_neg, ↓DL.H_asBl, ↓DL.e_not, ↓DL.e_and, ↓DL.e_or, ↓DL.e_and1, ↓DL.e_or1, ↓DL.H_if, ↓DL.e_and2, ↓DL.e_or2, ↓DL.e_cmp, ↓DL.e_chain, ↓DL.e_isN, ↓DL.e_isB, ↓DL.e_ife, ↓DL.H_ite, ↓DL.e_tup, ↓DL.e_lst, ↓DL.e_dic0, ↓DL.e_fz0, ↓DL.e_fz, ↓DL.e_es0, ↓DL.e_es, ↓DL.e_ix, ↓DL.e_slice, ↓DL.e_o0, ↓DL.e_o, ↓DL.e_bi, ↓DL.e_isi, ↓DL.e_meth, ↓DL.e_call, ↓DL.e_revs, ↓DL.e_orT, ↓DL.e_setf, ↓DL.HO_out, ↓DL.x_nil, ↓DL.x_cons, ↓DL.HO_nx, ↓DL.HO_if, ↓DL.HO_ite, ↓DL.x_asg, ↓DL.x_expr, ↓DL.x_ret, ↓DL.x_ite, ↓DL.x_pass, ↓DL.x_brk, ↓DL.x_raise, ↓DL.x_par, ↓DL.x_asgT, ↓DL.x_append', ↓DL.x_extend', ↓DL.x_setix', ↓DL.s_seq, ↓DL.s_rng1, ↓DL.s_rng2, ↓DL.s_enum, ↓DL.s_zip, ↓DL.c_none, ↓DL.c_some, DL.seqL_lst, DL.seqL_tup, DL.enumL_lst, DL.zipL_lst, DL.zipL_tup, DL.rngD_ok, DL.len_rangeI, DL.stK_mk, DL.put_fro, DL.put_fre, DL.put_bor, DL.fz_fro, DL.fz_fre, DL.fz_bor, DL.set_mk, DL.wipe_nil, DL.wipe_cons, DL.bindT_nm, DL.bindT_tp, DL.frz_mk, DL.frzC_own, DL.frzC_fro, DL.fzs_nil, DL.fzs_cons, DL.add_int, DL.add_lst, DL.add_tup, DL.sub_int, DL.mul_int, DL.mul_lst, DL.mul_tup, DL.fdiv_int, DL.md_int, DL.lt_int, DL.le_int, DL.gt_int, DL.ge_int, DL.eq_any, DL.ne_any, DL.isin_any, DL.notin_any, DL.blOf_bl, DL.intOf_int, DL.len_lst, DL.len_tup, DL.len_scr, DL.ix_lst, DL.ix_tup, DL.ix_scr, DL.ix_dic, DL.eq_int, DL.eq_lints, DL.eq_lints_nil, DL.scr_eq_nil, DL.imm_int, DL.imm_bl, DL.imm_non, DL.imm_str, DL.imm_lst, DL.imm_tup, DL.imms_nil, DL.imms_cons, DL.imms_ints, DL.own_fro, DL.own_fre, DL.own_bor, DL.ownB_own, DL.ownB_fro, DL.clOf_fro, DL.clOf_fre, DL.clOf_bor, DL.isNon_non, DL.isNon_int, DL.isNon_tup, DL.isNon_lst, DL.isNon_str, DL.slice_lst, DL.slice_tup, DL.list_lst, DL.list_tup, DL.tuple_lst, DL.tuple_tup, DL.sum_lst, DL.sum_tup, DL.all_lst, DL.max_int, DL.min_int, DL.abs_int, DL.int_bl, DL.int_int, DL.intsOf_map, DL.blsOf_map, DL.truD_lst, DL.setD_len, DL.setD_srt, DL.sorted_lst, DL.sorted_dic, DL.get1_dic, DL.get2_dic, DL.count_lst, DL.recv_get, DL.recv_count, DL.recv_index, DL.keyOf_int, DL.keyOf_str, DL.appK_own, DL.extK_own, DL.setK_dic, DL.setK_lst, DL.isOwnL_own, DL.isOwn_own, DL.isi_ii, DL.isi_ib, DL.isi_tt, DL.isi_ss, DL.isi_ll, DL.isi_bi, DL.isi_bb, DL.isi_lt, DL.isi_tl, DL.at0, DL.at1, DL.at2, DL.last1, DL.last2, DL.last3, DL.at_ints, DL.encO_some, DL.encO_none, CRes.ok.injEq, D.bl.injEq, D.int.injEq, D.lst.injEq, D.tup.injEq, D.str.injEq, DL.ints_inj, Prod.mk.injEq, if_true, if_false, Bool.false_eq_true, Bool.true_eq_false, Bool.and_true, Bool.true_and, Bool.and_self, Bool.and_false, Bool.false_and, List.length_cons, List.length_nil, List.length_map, Nat.reduceAdd, Nat.reduceLeDiff, true_and, and_true, List.zip_cons_cons, List.zip_nil_right, List.foldl_cons, List.foldl_nil, bne_self_eq_false, Bool.bne_false, Bool.bne_true, Bool.not_false, Bool.not_true, Option.map_none, List.cons_append, List.nil_append, Nat.reduceLT, or_self, and_self, or_true, true_or, or_false, false_or, and_false, false_and, Int.cast_ofNat_Int, Int.reduceLT, Int.reduceLE, Int.reduceEq, Int.reduceNeg, Int.reduceAdd, Int.reduceSub, Int.reduceToNat, true_imp_iff, false_imp_iff, not_true_eq_false, not_false_eq_true, Bool.not_eq_true, Bool.not_eq_false, List.getElem?_cons_succ, List.getElem?_cons_zero, List.set_cons_zero, List.set_cons_succ, List.map_cons, List.map_nil, List.drop_zero, List.take_zero, DL.omap, DL.obind, eq_self, decide_true, decide_false, decide_eq_true_eq, decide_eq_false_iff_not, imp_false, Classical.not_not, reduceCtorEq, implies_true, DL.sq_at_at, DL.sq_at_of, DL.sq_at_back, DL.sq_at_rest, DL.sq_of_at, DL.sq_of_of, DL.sq_of_back, DL.sq_of_rest, DL.sq_back_at, DL.sq_back_of, DL.sq_back_back, DL.sq_back_rest, DL.sq_rest_at, DL.sq_rest_of, DL.sq_rest_back, DL.sq_rest_rest, ↓DL.e_srtI, ↓DL.e_lrng, DL.items_dic, DL.pairsK_enc, DL.imm_ru, DL.imm_enc, DL.imm_encO, DL.imm_pt, DL.imms_enc, DL.run_pk, DL.run_look_rule, DL.run_look_many, DL.cut_takeI, DL.cut_dropI, DL.in_lints, DL.in_01, *])
local macro_rules | `(tactic| walk_at "wi") => `(tactic| try simp (disch := first | assumption | omega) only [↓DL.H_ok, ↓DL.H_bind, ↓DL.H_opt, ↓DL.optK_some, ↓DL.optK_ite, ↓DL.condK_true, ↓DL.condK_false, ↓DL.condK_dec, ↓DL.condK_not, ↓DL.varK_fro, ↓DL.varK_own, ↓DL.callR_ok, ↓DL.callR_exc, ↓DL.e_var, ↓DL.e_glob, ↓DL.e_int, ↓DL.e_bl, ↓DL.e_str, ↓DL.e_non, ↓DL.e_bin, ↓DL.e_neg, ↓DL.H_asBl, ↓DL.e_not, ↓DL.e_and, ↓DL.e_or, ↓DL.e_and1, ↓DL.e_or1, ↓DL.H_if, ↓DL.e_and2, ↓DL.e_or2, ↓DL.e_cmp, ↓DL.e_chain, ↓DL.e_isN, ↓DL.e_isB, ↓DL.H_ite, ↓DL.e_tup, ↓DL.e_lst, ↓DL.e_dic0, ↓DL.e_fz0, ↓DL.e_fz, ↓DL.e_es0, ↓DL.e_es, ↓DL.e_ix, ↓DL.e_slice, ↓DL.e_o0, ↓DL.e_o, ↓DL.e_bi, ↓DL.e_isi, ↓DL.e_meth, ↓DL.e_call, ↓DL.e_revs, ↓DL.e_orT, ↓DL.e_setf, ↓DL.HO_out, ↓DL.x_nil, ↓DL.x_cons, ↓DL.HO_nx, ↓DL.HO_if, ↓DL.HO_ite, ↓DL.x_asg, ↓DL.x_expr, ↓DL.x_ret, ↓DL.x_pass, ↓DL.x_brk, ↓DL.x_raise, ↓DL.x_par, ↓DL.x_asgT, ↓DL.x_append', ↓DL.x_extend', ↓DL.x_setix', ↓DL.s_seq, ↓DL.s_rng1, ↓DL.s_rng2, ↓DL.s_enum, ↓DL.s_zip, ↓DL.c_none, ↓DL.c_some, DL.seqL_lst, DL.seqL_tup, DL.enumL_lst, DL.zipL_lst, DL.zipL_tup, DL.rngD_ok, DL.len_rangeI, DL.stK_mk, DL.put_fro, DL.put_fre, DL.put_bor, DL.fz_fro, DL.fz_fre, DL.fz_bor, DL.set_mk, DL.wipe_nil, DL.wipe_cons, DL.bindT_nm, DL.bindT_tp, DL.frz_mk, DL.frzC_own, DL.frzC_fro, DL.fzs_nil, DL.fzs_cons, DL.add_int, DL.add_lst, DL.add_tup, DL.sub_int, DL.mul_int, DL.mul_lst, DL.mul_tup, DL.fdiv_int, DL.md_int, DL.lt_int, DL.le_int, DL.gt_int, DL.ge_int, DL.eq_any, DL.ne_any, DL.isin_any, DL.notin_any, DL.blOf_bl, DL.intOf_int, DL.len_lst, DL.len_tup, DL.len_scr, DL.ix_lst, DL.ix_tup, DL.ix_scr, DL.ix_dic, DL.eq_int, DL.eq_lints, DL.eq_lints_nil, DL.scr_eq_nil, DL.imm_int, DL.imm_bl, DL.imm_non, DL.imm_str, DL.imm_lst, DL.imm_tup, DL.imms_nil, DL.imms_cons, DL.imms_ints, DL.own_fro, DL.own_fre, DL.own_bor, DL.ownB_own, DL.ownB_fro, DL.clOf_fro, DL.clOf_fre, DL.clOf_bor, DL.isNon_non, DL.isNon_int, DL.isNon_tup, DL.isNon_lst, DL.isNon_str, DL.slice_lst, DL.slice_tup, DL.list_lst, DL.list_tup, DL.tuple_lst, DL.tuple_tup, DL.sum_lst, DL.sum_tup, DL.all_lst, DL.max_int, DL.min_int, DL.abs_int, DL.int_bl, DL.int_int, DL.intsOf_map, DL.blsOf_map, DL.truD_lst, DL.setD_len, DL.setD_srt, DL.sorted_lst, DL.sorted_dic, DL.get1_dic, DL.get2_dic, DL.count_lst, DL.recv_get, DL.recv_count, DL.recv_index, DL.keyOf_int, DL.keyOf_str, DL.appK_own, DL.extK_own, DL.setK_dic, DL.setK_lst, DL.isOwnL_own, DL.isOwn_own, DL.isi_ii, DL.isi_ib, DL.isi_tt, DL.isi_ss, DL.isi_ll, DL.isi_bi, DL.isi_bb, DL.isi_lt, DL.isi_tl, DL.at0, DL.at1, DL.at2, DL.last1, DL.last2, DL.last3, DL.at_ints, DL.encO_some, DL.encO_none, CRes.ok.injEq, D.bl.injEq, D.int.injEq, D.lst.injEq, D.tup.injEq, D.str.injEq, DL.ints_inj, Prod.mk.injEq, if_true, if_false, Bool.false_eq_true, Bool.true_eq_false, Bool.and_true, Bool.true_and, Bool.and_self, Bool.and_false, Bool.false_and, List.length_cons, List.length_nil, List.length_map, Nat.reduceAdd, Nat.reduceLeDiff, true_and, and_true, List.zip_cons_cons, List.zip_nil_right, List.foldl_cons, List.foldl_nil, bne_self_eq_false, Bool.bne_false, Bool.bne_true, Bool.not_false, Bool.not_true, Option.map_none, List.cons_append, List.nil_append, Nat.reduceLT, or_self, and_self, or_true, true_or, or_false, false_or, and_false, false_and, Int.cast_ofNat_Int, Int.reduceLT, Int.reduceLE, Int.reduceEq, Int.reduceNeg, Int.reduceAdd, Int.reduceSub, Int.reduceToNat, true_imp_iff, false_imp_iff, not_true_eq_false, not_false_eq_true, Bool.not_eq_true, Bool.not_eq_false, List.getElem?_cons_succ, List.getElem?_cons_zero, List.set_cons_zero, List.set_cons_succ, List.map_cons, List.map_nil, List.drop_zero, List.take_zero, DL.omap, DL.obind, eq_self, decide_true, decide_false, decide_eq_true_eq, decide_eq_false_iff_not, imp_false, Classical.not_not, reduceCtorEq, implies_true, DL.sq_at_at, DL.sq_at_of, DL.sq_at_back, DL.sq_at_rest, DL.sq_of_at, DL.sq_of_of, DL.sq_of_back, DL.sq_of_rest, DL.sq_back_at, DL.sq_back_of, DL.sq_back_back, DL.sq_back_rest, DL.sq_rest_at, DL.sq_rest_of, DL.sq_rest_back, DL.sq_rest_rest, ↓DL.e_srtI, ↓DL.e_lrng, DL.items_dic, DL.pairsK_enc, DL.imm_ru, DL.imm_enc, DL.imm_encO, DL.imm_pt, DL.imms_enc, DL.run_pk, DL.run_look_rule, DL.run_look_many, DL.cut_takeI, DL.cut_dropI, DL.in_lints, DL.in_01])
local macro_rules | `(tactic| walk_at "wj") => `(tactic| try simp (disch := first | assumption | omega) only [↓DL.H_ok, ↓DL.H_bind, ↓DL.H_opt, ↓DL.optK_some, ↓DL.optK_ite, ↓DL.condK_true, ↓DL.condK_false, ↓DL.condK_dec, ↓DL.condK_not, ↓DL.varK_fro, ↓DL.varK_own, ↓DL.callR_ok, ↓DL.callR_exc, ↓DL.e_var, ↓DL.e_glob, ↓DL.e_int, ↓DL.e_bl, ↓DL.e_str, ↓DL.e_non, ↓DL.e_bin, ↓DL.e_neg, ↓DL.H_asBl, ↓DL.e_not, ↓DL.e_and, ↓DL.e_or, ↓DL.e_and1, ↓DL.e_or1, ↓DL.H_if, ↓DL.e_and2, ↓DL.e_or2, ↓DL.e_cmp, ↓DL.e_chain, ↓DL.e_isN, ↓DL.e_isB, ↓DL.H_ite, ↓DL.e_tup, ↓DL.e_lst, ↓DL.e_dic0, ↓DL.e_fz0, ↓DL.e_fz, ↓DL.e_es0, ↓DL.e_es, ↓DL.e_ix, ↓DL.e_slice, ↓DL.e_o0, ↓DL.e_o, ↓DL.e_bi, ↓DL.e_isi, ↓DL.e_meth, ↓DL.e_call, ↓DL.e_revs, ↓DL.e_orT, ↓DL.e_setf, ↓DL.HO_out, ↓DL.x_nil, ↓DL.x_cons, ↓DL.HO_nx, ↓DL.HO_if, ↓DL.HO_ite, ↓DL.x_asg, ↓DL.x_expr, ↓DL.x_ret, ↓DL.x_pass, ↓DL.x_brk, ↓DL.x_raise, ↓DL.x_par, ↓DL.x_asgT, ↓DL.x_append', ↓DL.x_extend', ↓DL.x_setix', ↓DL.s_seq, ↓DL.s_rng1, ↓DL.s_rng2, ↓DL.s_enum, ↓DL.s_zip, ↓DL.c_none, ↓DL.c_some, DL.seqL_lst, DL.seqL_tup, DL.enumL_lst, DL.zipL_lst, DL.zipL_tup, DL.rngD_ok, DL.len_rangeI, DL.stK_mk, DL.put_fro, DL.put_fre, DL.put_bor, DL.fz_fro, DL.fz_fre, DL.fz_bor, DL.set_mk, DL.wipe_nil, DL.wipe_cons, DL.bindT_nm, DL.bindT_tp, DL.frz_mk, DL.frzC_own, DL.frzC_fro, DL.fzs_nil, DL.fzs_cons, DL.add_int, DL.add_lst, DL.add_tup, DL.sub_int, DL.mul_int, DL.mul_lst, DL.mul_tup, DL.fdiv_int, DL.md_int, DL.lt_int, DL.le_int, DL.gt_int, DL.ge_int, DL.eq_any, DL.ne_any, DL.isin_any, DL.notin_any, DL.blOf_bl, DL.intOf_int, DL.len_lst, DL.len_tup, DL.len_scr, DL.ix_lst, DL.ix_tup, DL.ix_scr, DL.ix_dic, DL.eq_int, DL.eq_lints, DL.eq_lints_nil, DL.scr_eq_nil, DL.imm_int, DL.imm_bl, DL.imm_non, DL.imm_str, DL.imm_lst, DL.imm_tup, DL.imms_nil, DL.imms_cons, DL.imms_ints, DL.own_fro, DL.own_fre, DL.own_bor, DL.ownB_own, DL.ownB_fro, DL.clOf_fro, DL.clOf_fre, DL.clOf_bor, DL.isNon_non, DL.isNon_int, DL.isNon_tup, DL.isNon_lst, DL.isNon_str, DL.slice_lst, DL.slice_tup, DL.list_lst, DL.list_tup, DL.tuple_lst, DL.tuple_tup, DL.sum_lst, DL.sum_tup, DL.all_lst, DL.max_int, DL.min_int, DL.abs_int, DL.int_bl, DL.int_int, DL.intsOf_map, DL.blsOf_map, DL.truD_lst, DL.setD_len, DL.setD_srt, DL.sorted_lst, DL.sorted_dic, DL.get1_dic, DL.get2_dic, DL.count_lst, DL.recv_get, DL.recv_count, DL.recv_index, DL.keyOf_int, DL.keyOf_str, DL.appK_own, DL.extK_own, DL.setK_dic, DL.setK_lst, DL.isOwnL_own, DL.isOwn_own, DL.isi_ii, DL.isi_ib, DL.isi_tt, DL.isi_ss, DL.isi_ll, DL.isi_bi, DL.isi_bb, DL.isi_lt, DL.isi_tl, DL.at0, DL.at1, DL.at2, DL.last1, DL.last2, DL.last3, DL.at_ints, DL.encO_some, DL.encO_none, CRes.ok.injEq, D.bl.injEq, D.int.injEq, D.lst.injEq, D.tup.injEq, D.str.injEq, DL.ints_inj, Prod.mk.injEq, if_true, if_false, Bool.false_eq_true, Bool.true_eq_false, Bool.and_true, Bool.true_and, Bool.and_self, Bool.and_false, Bool.false_and, List.length_cons, List.length_nil, List.length_map, Nat.reduceAdd, Nat.reduceLeDiff, true_and, and_true, List.zip_cons_cons, List.zip_nil_right, List.foldl_cons, List.foldl_nil, bne_self_eq_false, Bool.bne_false, Bool.bne_true, Bool.not_false, Bool.not_true, Option.map_none, List.cons_append, List.nil_append, Nat.reduceLT, or_self, and_self, or_true, true_or, or_false, false_or, and_false, false_and, Int.cast_ofNat_Int, Int.reduceLT, Int.reduceLE, Int.reduceEq, Int.reduceNeg, Int.reduceAdd, Int.reduceSub, Int.reduceToNat, true_imp_iff, false_imp_iff, not_true_eq_false, not_false_eq_true, Bool.not_eq_true, Bool.not_eq_false, List.getElem?_cons_succ, List.getElem?_cons_zero, List.set_cons_zero, List.set_cons_succ, List.map_cons, List.map_nil, List.drop_zero, List.take_zero, DL.omap, DL.obind, eq_self, decide_true, decide_false, decide_eq_true_eq, decide_eq_false_iff_not, imp_false, Classical.not_not, reduceCtorEq, implies_true, DL.sq_at_at, DL.sq_at_of, DL.sq_at_back, DL.sq_at_rest, DL.sq_of_at, DL.sq_of_of, DL.sq_of_back, DL.sq_of_rest, DL.sq_back_at, DL.sq_back_of, DL.sq_back_back, DL.sq_back_rest, DL.sq_rest_at, DL.sq_rest_of, DL.sq_rest_back, DL.sq_rest_rest, ↓DL.e_srtI, ↓DL.e_lrng, DL.items_dic, DL.pairsK_enc, DL.imm_ru, DL.imm_enc, DL.imm_encO, DL.imm_pt, DL.imms_enc, DL.run_pk, DL.run_look_rule, DL.run_look_many, DL.cut_takeI, DL.cut_dropI, DL.in_lints, DL.in_01, *])
theorem run_steps {q : Nat} {r : Ru} {m : Int} {w : List WObj} (hr : r.Ok) (h0 : 1 ≤ m) (hm : m ≤ 200) (hq : 11 ≤ q) : run T q kf_p_steps [r.enc, .int m] w = .ok (.lst ((stepsM (r.row m.toNat)).map .int)) true w := by
  obtain ⟨n, rfl⟩ : ∃ n, q = n + 1 := ⟨q - 1, by omega⟩
  have hl := row_len r m.toNat
  refine run_w T_p_steps rfl [.fro r.enc, .fro (.int m), .un, .un, .un] rfl ?_
  unfold fd_p_steps
  have er := run_numbers (n := n) (w := w) hr h0 (by omega) (by omega)
  generalize r.row m.toNat = row at *
  walk_at "wp"
  rw [er]
  walk_at "wp"
  refine e_lcM (row.zip (row.drop 1)) (fun p => .tup [.int p.1, .int p.2]) (fun p => .int (p.2 - p.1)) ?_
  walk_at "wp"
  rw [← List.map_drop, zipD_map]
  refine ⟨rfl, by rw [List.length_zip]; omega, ?_⟩
  unfold stepsM
  rw [List.map_map]
  rfl
theorem run_is_slow {q : Nat} {r : Ru} {m : Int} {w : List WObj} (hr : r.Ok) (h0 : 1 ≤ m) (hm : m ≤ 200) (hq : 12 ≤ q) : run T q kf_p_is_slow [r.enc, .int m] w = .ok (.bl ((stepsM (r.row m.toNat)).all fun d => decide (d = 0 ∨ d = 1))) false w := by
  obtain ⟨n, rfl⟩ : ∃ n, q = n + 1 := ⟨q - 1, by omega⟩
  have hl := stepsM_len (r.row m.toNat)
  have hl2 := row_len r m.toNat
  refine run_w T_p_is_slow rfl [.fro r.enc, .fro (.int m), .un] rfl ?_
  unfold fd_p_is_slow
  have er := run_steps (q := n) (w := w) hr h0 (by omega) (by omega)
  generalize stepsM (r.row m.toNat) = st at *
  walk_at "wp"
  refine e_lcM st .int (fun d => .bl (decide (d = 0 ∨ d = 1))) ?_
  walk_at "wp"
  rw [er]
  walk_at "wp"
  refine ⟨by omega, ?_⟩
  rw [show (st.map fun d => D.bl (decide (d = 0 ∨ d = 1))) = (st.map fun d => decide (d = 0 ∨ d = 1)).map .bl by rw [List.map_map]; rfl]
  walk_at "wp"
  rw [all_map]
theorem run_never_falls {q : Nat} {r : Ru} {m : Int} {w : List WObj} (hr : r.Ok) (h0 : 1 ≤ m) (hm : m ≤ 200) (hq : 12 ≤ q) : run T q kf_p_never_falls [r.enc, .int m] w = .ok (.bl ((stepsM (r.row m.toNat)).all fun d => decide (0 ≤ d))) false w := by
  obtain ⟨n, rfl⟩ : ∃ n, q = n + 1 := ⟨q - 1, by omega⟩
  have hl := stepsM_len (r.row m.toNat)
  have hl2 := row_len r m.toNat
  refine run_w T_p_never_falls rfl [.fro r.enc, .fro (.int m), .un] rfl ?_
  unfold fd_p_never_falls
  have er := run_steps (q := n) (w := w) hr h0 (by omega) (by omega)
  generalize stepsM (r.row m.toNat) = st at *
  walk_at "wp"
  refine e_lcM st .int (fun d => .bl (decide (0 ≤ d))) ?_
  walk_at "wp"
  rw [er]
  walk_at "wp"
  refine ⟨by omega, ?_⟩
  rw [show (st.map fun d => D.bl (decide (0 ≤ d))) = (st.map fun d => decide (0 ≤ d)).map .bl by rw [List.map_map]; rfl]
  walk_at "wp"
  rw [all_map]
theorem run_first_fall {q : Nat} {r : Ru} {m : Int} {w : List WObj} (hr : r.Ok) (h0 : 1 ≤ m) (hm : m ≤ 200) (hq : 12 ≤ q) : run T q kf_p_first_fall [r.enc, .int m] w = .ok (encO (fallM (r.row m.toNat))) false w := by
  obtain ⟨n, rfl⟩ : ∃ n, q = n + 1 := ⟨q - 1, by omega⟩
  have hl := stepsM_len (r.row m.toNat)
  have hl2 := row_len r m.toNat
  refine run_w T_p_first_fall rfl [.fro r.enc, .fro (.int m), .un, .un, .un] rfl ?_
  unfold fd_p_first_fall
  have er := run_steps (q := n) (w := w) hr h0 (by omega) (by omega)
  unfold fallM
  generalize stepsM (r.row m.toNat) = st at *
  walk_at "wp"
  refine e_lcF (st.zipIdx 0) (fun p => .tup [.int (0 + (p.2 : Int)), .int p.1]) (fun p => decide (p.1 < 0)) (fun p => .int (0 + (p.2 : Int) + 2)) ?_
  walk_at "wp"
  rw [er]
  walk_at "wp"
  rw [enumD_map]
  refine ⟨rfl, by rw [List.length_zipIdx]; omega, ?_⟩
  have fl := List.length_filter_le (fun p : Int × Nat => decide (p.1 < 0)) (st.zipIdx 0)
  rw [List.length_zipIdx] at fl
  generalize (st.zipIdx 0).filter (fun p => decide (p.1 < 0)) = fs at *
  walk_at "wp"
  refine ⟨by omega, ?_⟩
  cases fs with
  | nil => rfl
  | cons a tl =>
    rw [List.map_cons, List.cons_append, at0]
    walk_at "wp"
    simp [encO]
end DL

set_option pp.deepTerms.threshold 6
/-! W14: how often, records, runs; told rows. -/
namespace DL
open PySem L2
local macro_rules | `(tactic| walk_at "wp") => `(tactic| try simp (disch := first | assumption | omega) only [↓DL.H_ok, ↓DL.H_bind, ↓DL.H_opt, ↓DL.optK_some, ↓DL.optK_ite, ↓DL.condK_true, ↓DL.condK_false, ↓DL.condK_dec, ↓DL.condK_not, ↓DL.varK_fro, ↓DL.varK_own, ↓DL.callR_ok, ↓DL.callR_exc, ↓DL.e_var, ↓DL.e_glob, ↓DL.e_int, ↓DL.e_bl, ↓DL.e_str, ↓DL.e_non, ↓DL.e_bin, ↓DL.e_neg, ↓DL.H_asBl, ↓DL.e_not, ↓DL.e_and, ↓DL.e_or, ↓DL.e_and1, ↓DL.e_or1, ↓DL.H_if, ↓DL.e_and2, ↓DL.e_or2, ↓DL.e_cmp, ↓DL.e_chain, ↓DL.e_isN, ↓DL.e_isB, ↓DL.e_ife, ↓DL.H_ite, ↓DL.e_tup, ↓DL.e_lst, ↓DL.e_dic0, ↓DL.e_fz0, ↓DL.e_fz, ↓DL.e_es0, ↓DL.e_es, ↓DL.e_ix, ↓DL.e_slice, ↓DL.e_o0, ↓DL.e_o, ↓DL.e_bi, ↓DL.e_isi, ↓DL.e_meth, ↓DL.e_call, ↓DL.e_revs, ↓DL.e_orT, ↓DL.e_setf, ↓DL.HO_out, ↓DL.x_nil, ↓DL.x_cons, ↓DL.HO_nx, ↓DL.HO_if, ↓DL.HO_ite, ↓DL.x_asg, ↓DL.x_expr, ↓DL.x_ret, ↓DL.x_ite, ↓DL.x_pass, ↓DL.x_brk, ↓DL.x_raise, ↓DL.x_par, ↓DL.x_asgT, ↓DL.x_append', ↓DL.x_extend', ↓DL.x_setix', ↓DL.s_seq, ↓DL.s_rng1, ↓DL.s_rng2, ↓DL.s_enum, ↓DL.s_zip, ↓DL.c_none, ↓DL.c_some, DL.seqL_lst, DL.seqL_tup, DL.enumL_lst, DL.zipL_lst, DL.zipL_tup, DL.rngD_ok, DL.len_rangeI, DL.stK_mk, DL.put_fro, DL.put_fre, DL.put_bor, DL.fz_fro, DL.fz_fre, DL.fz_bor, DL.set_mk, DL.wipe_nil, DL.wipe_cons, DL.bindT_nm, DL.bindT_tp, DL.frz_mk, DL.frzC_own, DL.frzC_fro, DL.fzs_nil, DL.fzs_cons, DL.add_int, DL.add_lst, DL.add_tup, DL.sub_int, DL.mul_int, DL.mul_lst, DL.mul_tup, DL.fdiv_int, DL.md_int, DL.lt_int, DL.le_int, DL.gt_int, DL.ge_int, DL.eq_any, DL.ne_any, DL.isin_any, DL.notin_any, DL.blOf_bl, DL.intOf_int, DL.len_lst, DL.len_tup, DL.len_scr, DL.ix_lst, DL.ix_tup, DL.ix_scr, DL.ix_dic, DL.eq_int, DL.eq_lints, DL.eq_lints_nil, DL.scr_eq_nil, DL.imm_int, DL.imm_bl, DL.imm_non, DL.imm_str, DL.imm_lst, DL.imm_tup, DL.imms_nil, DL.imms_cons, DL.imms_ints, DL.own_fro, DL.own_fre, DL.own_bor, DL.ownB_own, DL.ownB_fro, DL.clOf_fro, DL.clOf_fre, DL.clOf_bor, DL.isNon_non, DL.isNon_int, DL.isNon_tup, DL.isNon_lst, DL.isNon_str, DL.slice_lst, DL.slice_tup, DL.list_lst, DL.list_tup, DL.tuple_lst, DL.tuple_tup, DL.sum_lst, DL.sum_tup, DL.all_lst, DL.max_int, DL.min_int, DL.abs_int, DL.int_bl, DL.int_int, DL.intsOf_map, DL.blsOf_map, DL.truD_lst, DL.setD_len, DL.setD_srt, DL.sorted_lst, DL.sorted_dic, DL.get1_dic, DL.get2_dic, DL.count_lst, DL.recv_get, DL.recv_count, DL.recv_index, DL.keyOf_int, DL.keyOf_str, DL.appK_own, DL.extK_own, DL.setK_dic, DL.setK_lst, DL.isOwnL_own, DL.isOwn_own, DL.isi_ii, DL.isi_ib, DL.isi_tt, DL.isi_ss, DL.isi_ll, DL.isi_bi, DL.isi_bb, DL.isi_lt, DL.isi_tl, DL.at0, DL.at1, DL.at2, DL.last1, DL.last2, DL.last3, DL.at_ints, DL.encO_some, DL.encO_none, CRes.ok.injEq, D.bl.injEq, D.int.injEq, D.lst.injEq, D.tup.injEq, D.str.injEq, DL.ints_inj, Prod.mk.injEq, if_true, if_false, Bool.false_eq_true, Bool.true_eq_false, Bool.and_true, Bool.true_and, Bool.and_self, Bool.and_false, Bool.false_and, List.length_cons, List.length_nil, List.length_map, Nat.reduceAdd, Nat.reduceLeDiff, true_and, and_true, List.zip_cons_cons, List.zip_nil_right, List.foldl_cons, List.foldl_nil, bne_self_eq_false, Bool.bne_false, Bool.bne_true, Bool.not_false, Bool.not_true, Option.map_none, List.cons_append, List.nil_append, Nat.reduceLT, or_self, and_self, or_true, true_or, or_false, false_or, and_false, false_and, Int.cast_ofNat_Int, Int.reduceLT, Int.reduceLE, Int.reduceEq, Int.reduceNeg, Int.reduceAdd, Int.reduceSub, Int.reduceToNat, true_imp_iff, false_imp_iff, not_true_eq_false, not_false_eq_true, Bool.not_eq_true, Bool.not_eq_false, List.getElem?_cons_succ, List.getElem?_cons_zero, List.set_cons_zero, List.set_cons_succ, List.map_cons, List.map_nil, List.drop_zero, List.take_zero, DL.omap, DL.obind, eq_self, decide_true, decide_false, decide_eq_true_eq, decide_eq_false_iff_not, imp_false, Classical.not_not, reduceCtorEq, implies_true, DL.sq_at_at, DL.sq_at_of, DL.sq_at_back, DL.sq_at_rest, DL.sq_of_at, DL.sq_of_of, DL.sq_of_back, DL.sq_of_rest, DL.sq_back_at, DL.sq_back_of, DL.sq_back_back, DL.sq_back_rest, DL.sq_rest_at, DL.sq_rest_of, DL.sq_rest_back, DL.sq_rest_rest, ↓DL.e_srtI, ↓DL.e_lrng, DL.items_dic, DL.pairsK_enc, DL.imm_ru, DL.imm_enc, DL.imm_encO, DL.imm_pt, DL.imms_enc, DL.run_pk, DL.run_look_rule, DL.run_look_many, DL.cut_takeI, DL.cut_dropI, DL.in_lints, DL.in_01])
local macro_rules | `(tactic| walk_at "ws") => `(tactic| try simp (disch := first | assumption | omega) only [↓DL.H_ok, ↓DL.H_bind, ↓DL.H_opt, ↓DL.optK_some, ↓DL.optK_ite, ↓DL.condK_true, ↓DL.condK_false, ↓DL.condK_dec, ↓DL.condK_not, ↓DL.varK_fro, ↓DL.varK_own, ↓DL.callR_ok, ↓DL.callR_exc, ↓DL.e_var, ↓DL.e_glob, ↓DL.e_int, ↓DL.e_bl, ↓DL.e_str, ↓DL.e_non, ↓DL.e_bin, ↓DL.e_neg, ↓DL.H_asBl, ↓DL.e_not, ↓DL.e_and, ↓DL.e_or, ↓DL.e_and1, ↓DL.e_or1, ↓DL.H_if, ↓DL.e_and2, ↓DL.e_or2, ↓DL.e_cmp, ↓DL.e_chain, ↓DL.e_isN, ↓DL.e_isB, ↓DL.e_ife, ↓DL.H_ite, ↓DL.e_tup, ↓DL.e_lst, ↓DL.e_dic0, ↓DL.e_fz0, ↓DL.e_fz, ↓DL.e_es0, ↓DL.e_es, ↓DL.e_ix, ↓DL.e_slice, ↓DL.e_o0, ↓DL.e_o, ↓DL.e_bi, ↓DL.e_isi, ↓DL.e_meth, ↓DL.e_call, ↓DL.e_revs, ↓DL.e_orT, ↓DL.e_setf, ↓DL.HO_out, ↓DL.x_nil, ↓DL.x_cons, ↓DL.HO_nx, ↓DL.HO_if, ↓DL.HO_ite, ↓DL.x_asg, ↓DL.x_expr, ↓DL.x_ret, ↓DL.x_ite, ↓DL.x_pass, ↓DL.x_brk, ↓DL.x_raise, ↓DL.x_par, ↓DL.x_asgT, ↓DL.x_append', ↓DL.x_extend', ↓DL.x_setix', ↓DL.s_seq, ↓DL.s_rng1, ↓DL.s_rng2, ↓DL.s_enum, ↓DL.s_zip, ↓DL.c_none, ↓DL.c_some, DL.seqL_lst, DL.seqL_tup, DL.enumL_lst, DL.zipL_lst, DL.zipL_tup, DL.rngD_ok, DL.len_rangeI, DL.stK_mk, DL.put_fro, DL.put_fre, DL.put_bor, DL.fz_fro, DL.fz_fre, DL.fz_bor, DL.set_mk, DL.wipe_nil, DL.wipe_cons, DL.bindT_nm, DL.bindT_tp, DL.frz_mk, DL.frzC_own, DL.frzC_fro, DL.fzs_nil, DL.fzs_cons, DL.add_int, DL.add_lst, DL.add_tup, DL.sub_int, DL.mul_int, DL.mul_lst, DL.mul_tup, DL.fdiv_int, DL.md_int, DL.lt_int, DL.le_int, DL.gt_int, DL.ge_int, DL.eq_any, DL.ne_any, DL.isin_any, DL.notin_any, DL.blOf_bl, DL.intOf_int, DL.len_lst, DL.len_tup, DL.len_scr, DL.ix_lst, DL.ix_tup, DL.ix_scr, DL.ix_dic, DL.eq_int, DL.eq_lints, DL.eq_lints_nil, DL.scr_eq_nil, DL.imm_int, DL.imm_bl, DL.imm_non, DL.imm_str, DL.imm_lst, DL.imm_tup, DL.imms_nil, DL.imms_cons, DL.imms_ints, DL.own_fro, DL.own_fre, DL.own_bor, DL.ownB_own, DL.ownB_fro, DL.clOf_fro, DL.clOf_fre, DL.clOf_bor, DL.isNon_non, DL.isNon_int, DL.isNon_tup, DL.isNon_lst, DL.isNon_str, DL.slice_lst, DL.slice_tup, DL.list_lst, DL.list_tup, DL.tuple_lst, DL.tuple_tup, DL.sum_lst, DL.sum_tup, DL.all_lst, DL.max_int, DL.min_int, DL.abs_int, DL.int_bl, DL.int_int, DL.intsOf_map, DL.blsOf_map, DL.truD_lst, DL.setD_len, DL.setD_srt, DL.sorted_lst, DL.sorted_dic, DL.get1_dic, DL.get2_dic, DL.count_lst, DL.recv_get, DL.recv_count, DL.recv_index, DL.keyOf_int, DL.keyOf_str, DL.appK_own, DL.extK_own, DL.setK_dic, DL.setK_lst, DL.isOwnL_own, DL.isOwn_own, DL.isi_ii, DL.isi_ib, DL.isi_tt, DL.isi_ss, DL.isi_ll, DL.isi_bi, DL.isi_bb, DL.isi_lt, DL.isi_tl, DL.at0, DL.at1, DL.at2, DL.last1, DL.last2, DL.last3, DL.at_ints, DL.encO_some, DL.encO_none, CRes.ok.injEq, D.bl.injEq, D.int.injEq, D.lst.injEq, D.tup.injEq, D.str.injEq, DL.ints_inj, Prod.mk.injEq, if_true, if_false, Bool.false_eq_true, Bool.true_eq_false, Bool.and_true, Bool.true_and, Bool.and_self, Bool.and_false, Bool.false_and, List.length_cons, List.length_nil, List.length_map, Nat.reduceAdd, Nat.reduceLeDiff, true_and, and_true, List.zip_cons_cons, List.zip_nil_right, List.foldl_cons, List.foldl_nil, bne_self_eq_false, Bool.bne_false, Bool.bne_true, Bool.not_false, Bool.not_true, Option.map_none, List.cons_append, List.nil_append, Nat.reduceLT, or_self, and_self, or_true, true_or, or_false, false_or, and_false, false_and, Int.cast_ofNat_Int, Int.reduceLT, Int.reduceLE, Int.reduceEq, Int.reduceNeg, Int.reduceAdd, Int.reduceSub, Int.reduceToNat, true_imp_iff, false_imp_iff, not_true_eq_false, not_false_eq_true, Bool.not_eq_true, Bool.not_eq_false, List.getElem?_cons_succ, List.getElem?_cons_zero, List.set_cons_zero, List.set_cons_succ, List.map_cons, List.map_nil, List.drop_zero, List.take_zero, DL.omap, DL.obind, eq_self, decide_true, decide_false, decide_eq_true_eq, decide_eq_false_iff_not, imp_false, Classical.not_not, reduceCtorEq, implies_true, DL.sq_at_at, DL.sq_at_of, DL.sq_at_back, DL.sq_at_rest, DL.sq_of_at, DL.sq_of_of, DL.sq_of_back, DL.sq_of_rest, DL.sq_back_at, DL.sq_back_of, DL.sq_back_back, DL.sq_back_rest, DL.sq_rest_at, DL.sq_rest_of, DL.sq_rest_back, DL.sq_rest_rest, ↓DL.e_srtI, ↓DL.e_lrng, DL.items_dic, DL.pairsK_enc, DL.imm_ru, DL.imm_enc, DL.imm_encO, DL.imm_pt, DL.imms_enc, DL.run_pk, DL.run_look_rule, DL.run_look_many, DL.cut_takeI, DL.cut_dropI, DL.in_lints, DL.in_01, *])
local macro_rules | `(tactic| walk_at "wi") => `(tactic| try simp (disch := first | assumption | omega) only [↓DL.H_ok, ↓DL.H_bind, ↓DL.H_opt, ↓DL.optK_some, ↓DL.optK_ite, ↓DL.condK_true, ↓DL.condK_false, ↓DL.condK_dec, ↓DL.condK_not, ↓DL.varK_fro, ↓DL.varK_own, ↓DL.callR_ok, ↓DL.callR_exc, ↓DL.e_var, ↓DL.e_glob, ↓DL.e_int, ↓DL.e_bl, ↓DL.e_str, ↓DL.e_non, ↓DL.e_bin, ↓DL.e_neg, ↓DL.H_asBl, ↓DL.e_not, ↓DL.e_and, ↓DL.e_or, ↓DL.e_and1, ↓DL.e_or1, ↓DL.H_if, ↓DL.e_and2, ↓DL.e_or2, ↓DL.e_cmp, ↓DL.e_chain, ↓DL.e_isN, ↓DL.e_isB, ↓DL.H_ite, ↓DL.e_tup, ↓DL.e_lst, ↓DL.e_dic0, ↓DL.e_fz0, ↓DL.e_fz, ↓DL.e_es0, ↓DL.e_es, ↓DL.e_ix, ↓DL.e_slice, ↓DL.e_o0, ↓DL.e_o, ↓DL.e_bi, ↓DL.e_isi, ↓DL.e_meth, ↓DL.e_call, ↓DL.e_revs, ↓DL.e_orT, ↓DL.e_setf, ↓DL.HO_out, ↓DL.x_nil, ↓DL.x_cons, ↓DL.HO_nx, ↓DL.HO_if, ↓DL.HO_ite, ↓DL.x_asg, ↓DL.x_expr, ↓DL.x_ret, ↓DL.x_pass, ↓DL.x_brk, ↓DL.x_raise, ↓DL.x_par, ↓DL.x_asgT, ↓DL.x_append', ↓DL.x_extend', ↓DL.x_setix', ↓DL.s_seq, ↓DL.s_rng1, ↓DL.s_rng2, ↓DL.s_enum, ↓DL.s_zip, ↓DL.c_none, ↓DL.c_some, DL.seqL_lst, DL.seqL_tup, DL.enumL_lst, DL.zipL_lst, DL.zipL_tup, DL.rngD_ok, DL.len_rangeI, DL.stK_mk, DL.put_fro, DL.put_fre, DL.put_bor, DL.fz_fro, DL.fz_fre, DL.fz_bor, DL.set_mk, DL.wipe_nil, DL.wipe_cons, DL.bindT_nm, DL.bindT_tp, DL.frz_mk, DL.frzC_own, DL.frzC_fro, DL.fzs_nil, DL.fzs_cons, DL.add_int, DL.add_lst, DL.add_tup, DL.sub_int, DL.mul_int, DL.mul_lst, DL.mul_tup, DL.fdiv_int, DL.md_int, DL.lt_int, DL.le_int, DL.gt_int, DL.ge_int, DL.eq_any, DL.ne_any, DL.isin_any, DL.notin_any, DL.blOf_bl, DL.intOf_int, DL.len_lst, DL.len_tup, DL.len_scr, DL.ix_lst, DL.ix_tup, DL.ix_scr, DL.ix_dic, DL.eq_int, DL.eq_lints, DL.eq_lints_nil, DL.scr_eq_nil, DL.imm_int, DL.imm_bl, DL.imm_non, DL.imm_str, DL.imm_lst, DL.imm_tup, DL.imms_nil, DL.imms_cons, DL.imms_ints, DL.own_fro, DL.own_fre, DL.own_bor, DL.ownB_own, DL.ownB_fro, DL.clOf_fro, DL.clOf_fre, DL.clOf_bor, DL.isNon_non, DL.isNon_int, DL.isNon_tup, DL.isNon_lst, DL.isNon_str, DL.slice_lst, DL.slice_tup, DL.list_lst, DL.list_tup, DL.tuple_lst, DL.tuple_tup, DL.sum_lst, DL.sum_tup, DL.all_lst, DL.max_int, DL.min_int, DL.abs_int, DL.int_bl, DL.int_int, DL.intsOf_map, DL.blsOf_map, DL.truD_lst, DL.setD_len, DL.setD_srt, DL.sorted_lst, DL.sorted_dic, DL.get1_dic, DL.get2_dic, DL.count_lst, DL.recv_get, DL.recv_count, DL.recv_index, DL.keyOf_int, DL.keyOf_str, DL.appK_own, DL.extK_own, DL.setK_dic, DL.setK_lst, DL.isOwnL_own, DL.isOwn_own, DL.isi_ii, DL.isi_ib, DL.isi_tt, DL.isi_ss, DL.isi_ll, DL.isi_bi, DL.isi_bb, DL.isi_lt, DL.isi_tl, DL.at0, DL.at1, DL.at2, DL.last1, DL.last2, DL.last3, DL.at_ints, DL.encO_some, DL.encO_none, CRes.ok.injEq, D.bl.injEq, D.int.injEq, D.lst.injEq, D.tup.injEq, D.str.injEq, DL.ints_inj, Prod.mk.injEq, if_true, if_false, Bool.false_eq_true, Bool.true_eq_false, Bool.and_true, Bool.true_and, Bool.and_self, Bool.and_false, Bool.false_and, List.length_cons, List.length_nil, List.length_map, Nat.reduceAdd, Nat.reduceLeDiff, true_and, and_true, List.zip_cons_cons, List.zip_nil_right, List.foldl_cons, List.foldl_nil, bne_self_eq_false, Bool.bne_false, Bool.bne_true, Bool.not_false, Bool.not_true, Option.map_none, List.cons_append, List.nil_append, Nat.reduceLT, or_self, and_self, or_true, true_or, or_false, false_or, and_false, false_and, Int.cast_ofNat_Int, Int.reduceLT, Int.reduceLE, Int.reduceEq, Int.reduceNeg, Int.reduceAdd, Int.reduceSub, Int.reduceToNat, true_imp_iff, false_imp_iff, not_true_eq_false, not_false_eq_true, Bool.not_eq_true, Bool.not_eq_false, List.getElem?_cons_succ, List.getElem?_cons_zero, List.set_cons_zero, List.set_cons_succ, List.map_cons, List.map_nil, List.drop_zero, List.take_zero, DL.omap, DL.obind, eq_self, decide_true, decide_false, decide_eq_true_eq, decide_eq_false_iff_not, imp_false, Classical.not_not, reduceCtorEq, implies_true, DL.sq_at_at, DL.sq_at_of, DL.sq_at_back, DL.sq_at_rest, DL.sq_of_at, DL.sq_of_of, DL.sq_of_back, DL.sq_of_rest, DL.sq_back_at, DL.sq_back_of, DL.sq_back_back, DL.sq_back_rest, DL.sq_rest_at, DL.sq_rest_of, DL.sq_rest_back, DL.sq_rest_rest, ↓DL.e_srtI, ↓DL.e_lrng, DL.items_dic, DL.pairsK_enc, DL.imm_ru, DL.imm_enc, DL.imm_encO, DL.imm_pt, DL.imms_enc, DL.run_pk, DL.run_look_rule, DL.run_look_many, DL.cut_takeI, DL.cut_dropI, DL.in_lints, DL.in_01])
local macro_rules | `(tactic| walk_at "wj") => `(tactic| try simp (disch := first | assumption | omega) only [↓DL.H_ok, ↓DL.H_bind, ↓DL.H_opt, ↓DL.optK_some, ↓DL.optK_ite, ↓DL.condK_true, ↓DL.condK_false, ↓DL.condK_dec, ↓DL.condK_not, ↓DL.varK_fro, ↓DL.varK_own, ↓DL.callR_ok, ↓DL.callR_exc, ↓DL.e_var, ↓DL.e_glob, ↓DL.e_int, ↓DL.e_bl, ↓DL.e_str, ↓DL.e_non, ↓DL.e_bin, ↓DL.e_neg, ↓DL.H_asBl, ↓DL.e_not, ↓DL.e_and, ↓DL.e_or, ↓DL.e_and1, ↓DL.e_or1, ↓DL.H_if, ↓DL.e_and2, ↓DL.e_or2, ↓DL.e_cmp, ↓DL.e_chain, ↓DL.e_isN, ↓DL.e_isB, ↓DL.H_ite, ↓DL.e_tup, ↓DL.e_lst, ↓DL.e_dic0, ↓DL.e_fz0, ↓DL.e_fz, ↓DL.e_es0, ↓DL.e_es, ↓DL.e_ix, ↓DL.e_slice, ↓DL.e_o0, ↓DL.e_o, ↓DL.e_bi, ↓DL.e_isi, ↓DL.e_meth, ↓DL.e_call, ↓DL.e_revs, ↓DL.e_orT, ↓DL.e_setf, ↓DL.HO_out, ↓DL.x_nil, ↓DL.x_cons, ↓DL.HO_nx, ↓DL.HO_if, ↓DL.HO_ite, ↓DL.x_asg, ↓DL.x_expr, ↓DL.x_ret, ↓DL.x_pass, ↓DL.x_brk, ↓DL.x_raise, ↓DL.x_par, ↓DL.x_asgT, ↓DL.x_append', ↓DL.x_extend', ↓DL.x_setix', ↓DL.s_seq, ↓DL.s_rng1, ↓DL.s_rng2, ↓DL.s_enum, ↓DL.s_zip, ↓DL.c_none, ↓DL.c_some, DL.seqL_lst, DL.seqL_tup, DL.enumL_lst, DL.zipL_lst, DL.zipL_tup, DL.rngD_ok, DL.len_rangeI, DL.stK_mk, DL.put_fro, DL.put_fre, DL.put_bor, DL.fz_fro, DL.fz_fre, DL.fz_bor, DL.set_mk, DL.wipe_nil, DL.wipe_cons, DL.bindT_nm, DL.bindT_tp, DL.frz_mk, DL.frzC_own, DL.frzC_fro, DL.fzs_nil, DL.fzs_cons, DL.add_int, DL.add_lst, DL.add_tup, DL.sub_int, DL.mul_int, DL.mul_lst, DL.mul_tup, DL.fdiv_int, DL.md_int, DL.lt_int, DL.le_int, DL.gt_int, DL.ge_int, DL.eq_any, DL.ne_any, DL.isin_any, DL.notin_any, DL.blOf_bl, DL.intOf_int, DL.len_lst, DL.len_tup, DL.len_scr, DL.ix_lst, DL.ix_tup, DL.ix_scr, DL.ix_dic, DL.eq_int, DL.eq_lints, DL.eq_lints_nil, DL.scr_eq_nil, DL.imm_int, DL.imm_bl, DL.imm_non, DL.imm_str, DL.imm_lst, DL.imm_tup, DL.imms_nil, DL.imms_cons, DL.imms_ints, DL.own_fro, DL.own_fre, DL.own_bor, DL.ownB_own, DL.ownB_fro, DL.clOf_fro, DL.clOf_fre, DL.clOf_bor, DL.isNon_non, DL.isNon_int, DL.isNon_tup, DL.isNon_lst, DL.isNon_str, DL.slice_lst, DL.slice_tup, DL.list_lst, DL.list_tup, DL.tuple_lst, DL.tuple_tup, DL.sum_lst, DL.sum_tup, DL.all_lst, DL.max_int, DL.min_int, DL.abs_int, DL.int_bl, DL.int_int, DL.intsOf_map, DL.blsOf_map, DL.truD_lst, DL.setD_len, DL.setD_srt, DL.sorted_lst, DL.sorted_dic, DL.get1_dic, DL.get2_dic, DL.count_lst, DL.recv_get, DL.recv_count, DL.recv_index, DL.keyOf_int, DL.keyOf_str, DL.appK_own, DL.extK_own, DL.setK_dic, DL.setK_lst, DL.isOwnL_own, DL.isOwn_own, DL.isi_ii, DL.isi_ib, DL.isi_tt, DL.isi_ss, DL.isi_ll, DL.isi_bi, DL.isi_bb, DL.isi_lt, DL.isi_tl, DL.at0, DL.at1, DL.at2, DL.last1, DL.last2, DL.last3, DL.at_ints, DL.encO_some, DL.encO_none, CRes.ok.injEq, D.bl.injEq, D.int.injEq, D.lst.injEq, D.tup.injEq, D.str.injEq, DL.ints_inj, Prod.mk.injEq, if_true, if_false, Bool.false_eq_true, Bool.true_eq_false, Bool.and_true, Bool.true_and, Bool.and_self, Bool.and_false, Bool.false_and, List.length_cons, List.length_nil, List.length_map, Nat.reduceAdd, Nat.reduceLeDiff, true_and, and_true, List.zip_cons_cons, List.zip_nil_right, List.foldl_cons, List.foldl_nil, bne_self_eq_false, Bool.bne_false, Bool.bne_true, Bool.not_false, Bool.not_true, Option.map_none, List.cons_append, List.nil_append, Nat.reduceLT, or_self, and_self, or_true, true_or, or_false, false_or, and_false, false_and, Int.cast_ofNat_Int, Int.reduceLT, Int.reduceLE, Int.reduceEq, Int.reduceNeg, Int.reduceAdd, Int.reduceSub, Int.reduceToNat, true_imp_iff, false_imp_iff, not_true_eq_false, not_false_eq_true, Bool.not_eq_true, Bool.not_eq_false, List.getElem?_cons_succ, List.getElem?_cons_zero, List.set_cons_zero, List.set_cons_succ, List.map_cons, List.map_nil, List.drop_zero, List.take_zero, DL.omap, DL.obind, eq_self, decide_true, decide_false, decide_eq_true_eq, decide_eq_false_iff_not, imp_false, Classical.not_not, reduceCtorEq, implies_true, DL.sq_at_at, DL.sq_at_of, DL.sq_at_back, DL.sq_at_rest, DL.sq_of_at, DL.sq_of_of, DL.sq_of_back, DL.sq_of_rest, DL.sq_back_at, DL.sq_back_of, DL.sq_back_back, DL.sq_back_rest, DL.sq_rest_at, DL.sq_rest_of, DL.sq_rest_back, DL.sq_rest_rest, ↓DL.e_srtI, ↓DL.e_lrng, DL.items_dic, DL.pairsK_enc, DL.imm_ru, DL.imm_enc, DL.imm_encO, DL.imm_pt, DL.imms_enc, DL.run_pk, DL.run_look_rule, DL.run_look_many, DL.cut_takeI, DL.cut_dropI, DL.in_lints, DL.in_01, *])
theorem run_how_often {q : Nat} {r : Ru} {m : Int} {w : List WObj} (hr : r.Ok) (h0 : 1 ≤ m) (hm : m ≤ 200) (hq : 11 ≤ q) : run T q kf_p_how_often [r.enc, .int m] w = .ok (.lst ((oftP (r.row m.toNat)).map encP)) true w := by
  obtain ⟨n, rfl⟩ : ∃ n, q = n + 1 := ⟨q - 1, by omega⟩
  have hl := row_len r m.toNat
  refine run_w T_p_how_often rfl [.fro r.enc, .fro (.int m), .un, .un] rfl ?_
  unfold fd_p_how_often
  have er := run_numbers (n := n) (w := w) hr h0 (by omega) (by omega)
  generalize r.row m.toNat = row at *
  walk_at "wp"
  refine x_forT row .int (fun s0 i s => ∃ c ps, Cnt (row.take i) ps ∧ ps.length ≤ i ∧ s = (s0.set 2 (.own (.dic (encK ps)))).set 3 c) ?_
  walk_at "wp"
  rw [er]
  walk_at "wp"
  refine ⟨⟨.un, [], cnt_nil, by simp, rfl⟩, ?_, ?_⟩
  · rintro i x s hx ⟨c, ps, hc, hp, rfl⟩
    have hi : i < row.length := (List.getElem?_eq_some_iff.mp hx).1
    walk_at "wp"
    rw [cnt_get hc]
    walk_at "wp"
    rw [put_enc, take_snoc hx]
    have le := putP_len ps x (((row.take i).count x : Nat) + 1)
    have len : (encK ps).length = ps.length := by simp [encK]
    exact ⟨by omega, .fro (.int x), _, cnt_step hc x, by omega, rfl⟩
  · rintro s ⟨c, ps, hc, hp, rfl⟩
    rw [List.take_length] at hc
    walk_at "wp"
    rw [cnt_sort hc]
theorem run_greatest {q : Nat} {r : Ru} {m : Int} {w : List WObj} (hr : r.Ok) (h0 : 1 ≤ m) (hm : m ≤ 200) (hq : 11 ≤ q) : run T q kf_p_greatest [r.enc, .int m] w = .ok (.int (maxI (r.row m.toNat))) false w := by
  obtain ⟨n, rfl⟩ : ∃ n, q = n + 1 := ⟨q - 1, by omega⟩
  refine run_w T_p_greatest rfl [.fro r.enc, .fro (.int m)] rfl ?_
  unfold fd_p_greatest
  have er := run_numbers (n := n) (w := w) hr h0 (by omega) (by omega)
  have hp := row_pos r (m := m.toNat) (by omega) hr.all.1.1
  generalize r.row m.toNat = row at *
  walk_at "wp"
  rw [er]
  walk_at "wp"
  have e : biD .max [.lst (row.map .int)] = some (.int (maxI row), .fro) := by
    show (intsOf (row.map .int)).bind _ = _
    rw [intsOf_map, Option.bind_some, if_pos (by omega)]
  rw [e]
  walk_at "wp"
theorem run_records {q : Nat} {r : Ru} {m : Int} {w : List WObj} (hr : r.Ok) (h0 : 1 ≤ m) (hm : m ≤ 200) (hq : 11 ≤ q) : run T q kf_p_records [r.enc, .int m] w = .ok (.lst ((recM (r.row m.toNat) none 0).map .int)) true w := by
  obtain ⟨n, rfl⟩ : ∃ n, q = n + 1 := ⟨q - 1, by omega⟩
  have hl := row_len r m.toNat
  refine run_w T_p_records rfl [.fro r.enc, .fro (.int m), .un, .un, .un, .un] rfl ?_
  unfold fd_p_records
  have er := run_numbers (n := n) (w := w) hr h0 (by omega) (by omega)
  generalize r.row m.toNat = row at *
  walk_at "wp"
  refine x_forT (row.zipIdx 0) (fun p => .tup [.int (0 + (p.2 : Int)), .int p.1]) (fun s0 i s => ∃ c4 c5 made b, recM row none 0 = made ++ recM (row.drop i) b i ∧ made.length ≤ i ∧ s = (((s0.set 2 (.own (.lst (made.map .int)))).set 3 (.fro (encO b))).set 4 c4).set 5 c5) ?_
  walk_at "wp"
  rw [er]
  walk_at "wp"
  rw [enumD_map]
  refine ⟨rfl, ⟨.un, .un, [], none, rfl, by simp, rfl⟩, ?_, ?_⟩
  · rintro i ⟨x, j⟩ s hx ⟨c4, c5, made, b, e, hm', rfl⟩
    obtain ⟨hx, ej⟩ := zipIdx_get hx
    have ej : j = i := by omega
    subst ej
    have hi : j < row.length := (List.getElem?_eq_some_iff.mp hx).1
    have hd : row.drop j = x :: row.drop (j + 1) := by
      rw [List.drop_eq_getElem_cons hi]
      rw [List.getElem?_eq_getElem hi] at hx
      cases hx
      rfl
    rw [hd] at e
    simp only [recM] at e
    walk_at "wp"
    cases b with
    | none =>
      walk_at "wp"
      rw [if_pos (.inl rfl)] at e
      refine ⟨by omega, .fro (.int (0 + (j : Int))), .fro (.int x), made ++ [(j : Int) + 1], some x, ?_, by simp; omega, ?_⟩
      · rw [e, List.append_assoc]
        rfl
      · simp [encO]
    | some y =>
      walk_at "wp"
      refine ⟨fun h => ?_, fun h => ?_⟩
      · rw [if_pos (.inr ⟨y, rfl, h⟩)] at e
        refine ⟨by omega, .fro (.int (0 + (j : Int))), .fro (.int x), made ++ [(j : Int) + 1], some x, ?_, by simp; omega, ?_⟩
        · rw [e, List.append_assoc]
          rfl
        · simp [encO]
      · rw [if_neg (by
          rintro (z | ⟨y', z, z2⟩)
          · cases z
          · cases z; exact h z2)] at e
        exact ⟨.fro (.int (0 + (j : Int))), .fro (.int x), made, some y, e, by omega, rfl⟩
  · rintro s ⟨c4, c5, made, b, e, hm', rfl⟩
    walk_at "wp"
    rw [List.length_zipIdx, List.drop_of_length_le (Nat.le_refl _)] at e
    simp only [recM, List.append_nil] at e
    rw [e]
theorem nice_encP {p : Int × Int} : nice 1 (encP p) = true := by simp [encP, nice, nices]
theorem nices_encP : ∀ ps : List (Int × Int), nices 1 (ps.map encP) = true
  | [] => by simp [nices]
  | a :: r => by simp [nices, nice_encP, nices_encP r]
theorem encP_inj {a b : List (Int × Int)} : a.map encP = b.map encP ↔ a = b := by
  constructor
  · intro h
    refine List.map_inj_right (fun x y e => ?_) |>.mp h
    unfold encP at e
    cases x; cases y
    simp at e
    exact Prod.ext e.1 e.2
  · intro h; rw [h]
theorem eq_pairs {a b : List (Int × Int)} : eqD (.lst (a.map encP)) (.lst (b.map encP)) = some (decide (a = b)) := by
  rw [eq_nice (n := 2) (m := 2) (by simp [nice, nices_encP]) (by simp [nice, nices_encP])]
  congr 1
  by_cases h : a = b
  · simp [h]
  · have : ¬ (D.lst (a.map encP) = D.lst (b.map encP)) := fun z => h (encP_inj.mp (by simpa using z))
    simp [h, this]
theorem eq_pairs_nil {a : List (Int × Int)} : eqD (.lst (a.map encP)) (.lst []) = some (decide (a = [])) := eq_pairs (b := [])
theorem runM_snoc (row : List Int) (x : Int) : runM (row ++ [x]) = runStep (runM row) x := by simp [runM]
theorem run_runs {q : Nat} {r : Ru} {m : Int} {w : List WObj} (hr : r.Ok) (h0 : 1 ≤ m) (hm : m ≤ 200) (hq : 11 ≤ q) : run T q kf_p_runs [r.enc, .int m] w = .ok (.lst ((runM (r.row m.toNat)).map encP)) true w := by
  obtain ⟨n, rfl⟩ : ∃ n, q = n + 1 := ⟨q - 1, by omega⟩
  have hl := row_len r m.toNat
  refine run_w T_p_runs rfl [.fro r.enc, .fro (.int m), .un, .un] rfl ?_
  unfold fd_p_runs
  have er := run_numbers (n := n) (w := w) hr h0 (by omega) (by omega)
  generalize r.row m.toNat = row at *
  walk_at "wp"
  refine x_forT row .int (fun s0 i s => ∃ c, (runM (row.take i)).length ≤ i ∧ s = (s0.set 2 (.own (.lst ((runM (row.take i)).map encP)))).set 3 c) ?_
  walk_at "wp"
  rw [er]
  walk_at "wp"
  refine ⟨⟨.un, by simp [runM], rfl⟩, ?_, ?_⟩
  · rintro i x s hx ⟨c, hp, rfl⟩
    have hi : i < row.length := (List.getElem?_eq_some_iff.mp hx).1
    rw [take_snoc hx, runM_snoc]
    generalize runM (row.take i) = made at *
    walk_at "wp"
    rw [eq_pairs_nil]
    walk_at "wp"
    rcases List.eq_nil_or_concat made with e | ⟨pre, ⟨y, c⟩, e⟩
    · subst e
      walk_at "wp"
      exact ⟨.fro (.int x), by simp [runStep], rfl⟩
    · rw [List.concat_eq_append] at e
      have hne : made ≠ [] := by rw [e]; simp
      have gl : made.getLast? = some (y, c) := by rw [e]; simp
      refine ⟨fun z => absurd z hne, fun _ => ?_⟩
      rw [at_last gl]
      simp only [encP]
      walk_at "wp"
      refine ⟨fun h => ?_, fun h => ?_⟩
      · rw [at_last gl]
        simp only [encP]
        walk_at "wp"
        have ml : made.length = pre.length + 1 := by rw [e]; simp
        have ix : ixN made.length (-1) = some pre.length := by
          unfold ixN
          rw [if_neg (by omega), if_pos (by omega)]
          congr 1
          omega
        rw [ix]
        walk_at "wp"
        subst h
        have e2 : runStep made y = pre ++ [(y, c + 1)] := by
          unfold runStep
          rw [gl]
          simp only
          rw [if_pos trivial, e]
          simp
        rw [e2, e]
        refine ⟨.fro (.int y), by simp; omega, ?_⟩
        simp [encP]
      · have e2 : runStep made x = made ++ [(x, 1)] := by unfold runStep; rw [gl]; simp only; rw [if_neg h]
        rw [e2]
        refine ⟨by omega, .fro (.int x), by simp; omega, ?_⟩
        simp [encP]
  · rintro s ⟨c, hp, rfl⟩
    rw [List.take_length]
    walk_at "wp"
end DL

/-! P67: shapes go together. -/
namespace DL
open PySem L2
theorem stepsM_cons (a b : Int) (r : List Int) : stepsM (a :: b :: r) = (b - a) :: stepsM (b :: r) := by simp [stepsM]
theorem steps_sum : ∀ (row : List Int), row ≠ [] → (stepsM row).sum = row.getD (row.length - 1) 0 - row.getD 0 0
  | [], h => absurd rfl h
  | [a], _ => by simp [stepsM]
  | a :: b :: r, _ => by
    have ih := steps_sum (b :: r) (by simp)
    rw [stepsM_cons, List.sum_cons, ih]
    simp [List.getD]
    omega
/-! stretches -/
def flatP (ps : List (Int × Int)) : List Int := (ps.map fun p => List.replicate p.2.toNat p.1).flatten
theorem flatP_snoc (ps : List (Int × Int)) (p : Int × Int) : flatP (ps ++ [p]) = flatP ps ++ List.replicate p.2.toNat p.1 := by simp [flatP]
structure RunOk (ps : List (Int × Int)) (row : List Int) : Prop where
  flat : flatP ps = row
  pos : ∀ p ∈ ps, 1 ≤ p.2
  ne : ∀ i a b, ps[i]? = some a → ps[i + 1]? = some b → a.1 ≠ b.1
theorem run_ok_step {ps : List (Int × Int)} {row : List Int} (h : RunOk ps row) (x : Int) : RunOk (runStep ps x) (row ++ [x]) := by
  obtain ⟨h1, h2, h3⟩ := h
  rcases List.eq_nil_or_concat ps with e | ⟨pre, ⟨y, c⟩, e⟩
  · subst e
    have e0 : row = [] := by rw [← h1]; rfl
    subst e0
    refine ⟨by simp [runStep, flatP], by simp [runStep], fun i a b ha hb => ?_⟩
    simp [runStep] at hb
  · rw [List.concat_eq_append] at e
    subst e
    have hc := h2 (y, c) (by simp)
    simp only at hc
    have gl : (pre ++ [(y, c)]).getLast? = some (y, c) := by simp
    have nepre : ∀ (z : Int × Int) (i : Nat) a b, z.1 = y → (pre ++ [z])[i]? = some a → (pre ++ [z])[i + 1]? = some b → a.1 ≠ b.1 := fun z i a b hz ha hb => by
      by_cases hi : i + 1 < pre.length
      · refine h3 i a b ?_ ?_
        · rw [List.getElem?_append_left (by omega)] at ha ⊢; exact ha
        · rw [List.getElem?_append_left hi] at hb ⊢; exact hb
      · have hl : i + 1 < (pre ++ [z]).length := (List.getElem?_eq_some_iff.mp hb).1
        have hi : i + 1 = pre.length := by simp at hl; omega
        rw [List.getElem?_append_right (by omega), hi] at hb
        simp at hb
        subst hb
        rw [List.getElem?_append_left (by omega)] at ha
        have := h3 i a (y, c) (by rw [List.getElem?_append_left (by omega)]; exact ha) (by rw [List.getElem?_append_right (by omega), hi]; simp)
        rw [hz]
        exact this
    unfold runStep
    rw [gl]
    simp only
    split
    · rename_i hy
      subst hy
      rw [List.dropLast_concat]
      refine ⟨?_, fun p hp => ?_, fun i a b => nepre (y, c + 1) i a b rfl⟩
      · rw [flatP_snoc, ← h1, flatP_snoc, List.append_assoc]
        show _ ++ List.replicate (c + 1).toNat y = _
        rw [show (c + 1).toNat = c.toNat + 1 by omega, List.replicate_succ']
      · rcases List.mem_append.mp hp with hp | hp
        · exact h2 p (List.mem_append_left _ hp)
        · rw [List.mem_singleton] at hp
          subst hp
          show 1 ≤ c + 1
          omega
    · rename_i hy
      refine ⟨?_, fun p hp => ?_, fun i a b ha hb => ?_⟩
      · rw [flatP_snoc, h1]; rfl
      · rcases List.mem_append.mp hp with hp | hp
        · exact h2 p hp
        · rw [List.mem_singleton] at hp
          subst hp
          exact Int.le_refl _
      · by_cases hi : i + 1 < (pre ++ [(y, c)]).length
        · exact h3 i a b (by rw [List.getElem?_append_left (by omega)] at ha; exact ha) (by rw [List.getElem?_append_left hi] at hb; exact hb)
        · have hl := (List.getElem?_eq_some_iff.mp hb).1
          simp only [List.length_append, List.length_singleton] at hl hi
          rw [List.getElem?_append_right (by simp; omega)] at hb
          simp only [List.length_append, List.length_singleton] at hb
          rw [show i + 1 - (pre.length + 1) = 0 by omega] at hb
          simp at hb
          subst hb
          rw [List.getElem?_append_left (by simp; omega), List.getElem?_append_right (by omega), show i - pre.length = 0 by omega] at ha
          simp at ha
          subst ha
          exact hy
theorem runs_ok (row : List Int) : RunOk (runM row) row := by
  have gen : ∀ n, RunOk (runM (row.take n)) (row.take n) := by
    intro n
    induction n with
    | zero => exact ⟨rfl, by simp [runM], fun i a b h => by simp [runM] at h⟩
    | succ n ih =>
      by_cases h : n < row.length
      · rw [List.take_succ_eq_append_getElem h, runM_snoc]
        exact run_ok_step ih _
      · rw [List.take_of_length_le (by omega)]
        rw [List.take_of_length_le (by omega)] at ih
        exact ih
  have := gen row.length
  rwa [List.take_length] at this
theorem flatP_last {ps : List (Int × Int)} (h : ∀ p ∈ ps, 1 ≤ p.2) {p : Int × Int} (hl : ps.getLast? = some p) : (flatP ps).getLast? = some p.1 := by
  rcases List.eq_nil_or_concat ps with e | ⟨pre, q, e⟩
  · subst e; cases hl
  · rw [List.concat_eq_append] at e
    subst e
    have e : q = p := by simpa using hl
    subst e
    have := h q (by simp)
    rw [flatP_snoc]
    obtain ⟨k, hk⟩ : ∃ k, q.2.toNat = k + 1 := ⟨q.2.toNat - 1, by omega⟩
    rw [hk, List.replicate_succ', ← List.append_assoc]
    simp
theorem flatP_len {ps : List (Int × Int)} (h : ∀ p ∈ ps, 1 ≤ p.2) : ps.length ≤ (flatP ps).length := by
  induction ps with
  | nil => simp
  | cons p r ih =>
    have a := ih fun q hq => h q (List.mem_cons_of_mem _ hq)
    have b := h p List.mem_cons_self
    simp only [flatP, List.map_cons, List.flatten_cons, List.length_append, List.length_replicate, List.length_cons] at a ⊢
    omega
/-! counts put together -/
theorem sum_zero {α : Type} : ∀ l : List α, (l.map fun _ => (0 : Int)).sum = 0
  | [] => rfl
  | a :: r => by rw [List.map_cons, List.sum_cons, sum_zero r]; rfl
theorem one_in {f : Int → Int} {a : Int} : ∀ {l : List Int}, l.Nodup → a ∈ l → (l.map fun x => if x = a then f x else 0).sum = f a
  | [], _, h => by cases h
  | b :: r, nd, h => by
    have nd := List.nodup_cons.mp nd
    rw [List.map_cons, List.sum_cons]
    by_cases e : b = a
    · subst e
      have z : (r.map fun x => if x = b then f x else 0).sum = 0 := by
        have : (r.map fun x => if x = b then f x else 0) = r.map fun _ => (0 : Int) := List.map_congr_left fun x hx => if_neg fun (q : x = b) => nd.1 (by rw [← q]; exact hx)
        rw [this, sum_zero]
      rw [if_pos rfl, z]
      omega
    · have hr : a ∈ r := by
        rcases List.mem_cons.mp h with h | h
        · exact absurd h.symm e
        · exact h
      rw [if_neg e, one_in nd.2 hr]
      omega
theorem sum_map_add (f g : Int → Int) : ∀ l : List Int, (l.map fun x => f x + g x).sum = (l.map f).sum + (l.map g).sum
  | [] => rfl
  | a :: r => by
    simp only [List.map_cons, List.sum_cons, sum_map_add f g r]
    omega
theorem weigh (f : Int → Int) : ∀ (row l : List Int), l.Nodup → (∀ x ∈ row, x ∈ l) → (l.map fun x => f x * (row.count x : Int)).sum = (row.map f).sum
  | [], l, nd, h => by
    have : (l.map fun x => f x * (([] : List Int).count x : Int)) = l.map fun _ => (0 : Int) := List.map_congr_left fun x _ => by simp
    rw [this, sum_zero]
    rfl
  | a :: r, l, nd, h => by
    have ih := weigh f r l nd fun x hx => h x (List.mem_cons_of_mem _ hx)
    have e : (l.map fun x => f x * ((a :: r).count x : Int)) = l.map fun x => f x * (r.count x : Int) + (if x = a then f x else 0) := List.map_congr_left fun x _ => by
      rw [List.count_cons]
      by_cases c : x = a
      · subst c; simp [Int.mul_add]
      · have : ¬ a = x := fun z => c z.symm
        simp [c, this]
    rw [e, sum_map_add, ih, one_in nd (h a List.mem_cons_self), List.map_cons, List.sum_cons]
    omega
theorem oft_keys (row : List Int) : (oftP row).map (·.1) = sortI (onceD row) := by
  unfold oftP
  rw [List.map_map]
  exact List.map_id _
theorem oft_nodup (row : List Int) : (sortI (onceD row)).Nodup := (List.Perm.nodup_iff (sortI_perm _)).mpr (nodup_onceD row)
theorem oft_all (row : List Int) : ∀ x ∈ row, x ∈ sortI (onceD row) := fun x hx => (sortI_perm _).mem_iff.mpr (mem_onceD.mpr hx)
theorem oft_sum (row : List Int) : ((oftP row).map fun p => p.2).sum = row.length := by
  have := weigh (fun _ => 1) row _ (oft_nodup row) (oft_all row)
  unfold oftP
  rw [List.map_map]
  have e : (row.map fun _ => (1 : Int)).sum = row.length := by
    clear this
    induction row with
    | nil => rfl
    | cons a r ih => rw [List.map_cons, List.sum_cons, ih]; simp; omega
  rw [← e, ← this]
  congr 1
  exact List.map_congr_left fun x _ => by simp
theorem oft_weigh (row : List Int) : ((oftP row).map fun p => p.1 * p.2).sum = row.sum := by
  have := weigh (fun x => x) row _ (oft_nodup row) (oft_all row)
  rw [List.map_id'] at this
  unfold oftP
  rw [List.map_map, ← this]
  rfl
theorem oft_le (row : List Int) : ∀ p ∈ oftP row, 0 ≤ p.2 ∧ p.2 ≤ row.length := fun p hp => by
  obtain ⟨x, _, e⟩ := List.mem_map.mp hp
  cases e
  have : row.count x ≤ row.length := List.count_le_length
  exact ⟨by simp, by simp; omega⟩
theorem once_len : ∀ xs : List Int, (onceD xs).length ≤ xs.length
  | [] => Nat.le_refl _
  | a :: r => by
    have := once_len r
    unfold onceD
    split
    · exact Nat.le_succ_of_le this
    · exact Nat.succ_le_succ this
theorem oft_len (row : List Int) : (oftP row).length ≤ row.length := by
  unfold oftP
  rw [List.length_map, show (sortI (onceD row)).length = (onceD row).length from (sortI_perm _).length_eq]
  exact once_len row
/-! records -/
theorem rec_mem : ∀ (row : List Int) (b : Option Int) (i : Nat) (p : Int), p ∈ recM row b i → ∃ j, j < row.length ∧ p = (i : Int) + j + 1 ∧ (∀ y, b = some y → y < row.getD j 0) ∧ ∀ j', j' < j → row.getD j' 0 < row.getD j 0
  | [], b, i, p, h => by simp [recM] at h
  | x :: r, b, i, p, h => by
    simp only [recM] at h
    split at h
    · rename_i hb
      rcases List.mem_cons.mp h with e | h
      · refine ⟨0, by simp, by omega, fun y ey => ?_, fun j' hj => by omega⟩
        subst e
        rcases hb with hb | ⟨y', e', hb⟩
        · rw [ey] at hb; cases hb
        · rw [ey] at e'; cases e'; exact hb
      · obtain ⟨j, h1, h2, h3, h4⟩ := rec_mem r (some x) (i + 1) p h
        have hx := h3 x rfl
        refine ⟨j + 1, by simp; omega, by omega, fun y e => ?_, fun j' hj => ?_⟩
        · show y < (x :: r).getD (j + 1) 0
          rw [List.getD_cons_succ]
          rcases hb with hb | ⟨y', e', hb⟩
          · rw [e] at hb; cases hb
          · rw [e] at e'; cases e'; omega
        · rw [List.getD_cons_succ]
          cases j' with
          | zero => exact hx
          | succ j' => rw [List.getD_cons_succ]; exact h4 j' (by omega)
    · rename_i hb
      obtain ⟨j, h1, h2, h3, h4⟩ := rec_mem r b (i + 1) p h
      refine ⟨j + 1, by simp; omega, by omega, fun y e => by rw [List.getD_cons_succ]; exact h3 y e, fun j' hj => ?_⟩
      rw [List.getD_cons_succ]
      cases j' with
      | zero =>
        cases b with
        | none => exact absurd (.inl rfl) hb
        | some y =>
          have : ¬ x > y := fun z => hb (.inr ⟨y, rfl, z⟩)
          have := h3 y rfl
          show x < _
          omega
      | succ j' => rw [List.getD_cons_succ]; exact h4 j' (by omega)
theorem rec_none : ∀ (row : List Int) (b : Option Int) (i : Nat), recM row b i = [] → ∀ x ∈ row, ∃ y, b = some y ∧ x ≤ y
  | [], b, i, h, x, hx => by cases hx
  | a :: r, b, i, h, x, hx => by
    simp only [recM] at h
    split at h
    · cases h
    · rename_i hb
      have ih := rec_none r b (i + 1) h
      rcases List.mem_cons.mp hx with e | hx
      · subst e
        cases b with
        | none => exact absurd (.inl rfl) hb
        | some y =>
          refine ⟨y, rfl, ?_⟩
          have : ¬ x > y := fun z => hb (.inr ⟨y, rfl, z⟩)
          omega
      · exact ih x hx
theorem rec_last : ∀ (row : List Int) (b : Option Int) (i : Nat) (p : Int), (recM row b i).getLast? = some p → ∃ j, j < row.length ∧ p = (i : Int) + j + 1 ∧ ∀ x ∈ row, x ≤ row.getD j 0
  | [], b, i, p, h => by simp [recM] at h
  | a :: r, b, i, p, h => by
    simp only [recM] at h
    split at h
    · cases q : recM r (some a) (i + 1) with
      | nil =>
        rw [q] at h
        simp at h
        refine ⟨0, by simp, by omega, fun x hx => ?_⟩
        rcases List.mem_cons.mp hx with e | hx
        · subst e; exact Int.le_refl _
        · obtain ⟨y, e, hy⟩ := rec_none r _ _ q x hx
          cases e
          exact hy
      | cons c t =>
        have hp : (recM r (some a) (i + 1)).getLast? = some p := by
          rw [q] at h ⊢
          rw [← h]
          simp
        obtain ⟨j, h1, h2, h3⟩ := rec_last r (some a) (i + 1) p hp
        refine ⟨j + 1, by simp; omega, by omega, fun x hx => ?_⟩
        rw [List.getD_cons_succ]
        rcases List.mem_cons.mp hx with e | hx
        · subst e
          obtain ⟨j', k1, k2, k3, _⟩ := rec_mem r (some x) (i + 1) p (List.mem_of_getLast? hp)
          have : j' = j := by omega
          subst this
          have := k3 x rfl
          omega
        · exact h3 x hx
    · rename_i hb
      obtain ⟨j, h1, h2, h3⟩ := rec_last r b (i + 1) p h
      refine ⟨j + 1, by simp; omega, by omega, fun x hx => ?_⟩
      rw [List.getD_cons_succ]
      rcases List.mem_cons.mp hx with e | hx
      · subst e
        obtain ⟨j', k1, k2, k3, _⟩ := rec_mem r b (i + 1) p (List.mem_of_getLast? h)
        have : j' = j := by omega
        subst this
        cases b with
        | none => exact absurd (.inl rfl) hb
        | some y =>
          have := k3 y rfl
          have : ¬ x > y := fun z => hb (.inr ⟨y, rfl, z⟩)
          omega
      · exact h3 x hx
theorem rec_cons (x : Int) (r : List Int) : recM (x :: r) none 0 = 1 :: recM r (some x) 1 := by simp [recM]
/-! falls -/
theorem fall_none (row : List Int) : (fallM row = none) ↔ (stepsM row).all (fun d => decide (0 ≤ d)) = true := by
  unfold fallM
  rw [Option.map_eq_none_iff, List.head?_eq_none_iff, List.filter_eq_nil_iff, List.all_eq_true]
  constructor
  · intro h x hx
    obtain ⟨i, hi⟩ := List.mem_iff_getElem?.mp hx
    have := h (x, i) (List.mem_zipIdx_iff_getElem?.mpr hi)
    simp at this
    simpa using this
  · intro h p hp
    have := List.mem_zipIdx_iff_getElem?.mp hp
    have := h p.1 (List.mem_of_getElem? this)
    simp at this
    simpa using this
theorem fall_some {row : List Int} {f : Int} (h : fallM row = some f) : ∃ i : Nat, f = (i : Int) + 2 ∧ i + 1 < row.length ∧ row.getD (i + 1) 0 < row.getD i 0 ∧ ∀ j : Nat, j < i → row.getD j 0 ≤ row.getD (j + 1) 0 := by
  unfold fallM at h
  rw [List.head?_filter] at h
  obtain ⟨⟨d, i⟩, h1, rfl⟩ := Option.map_eq_some_iff.mp h
  rw [List.find?_eq_some_iff_getElem] at h1
  obtain ⟨h2, k, hk, h3, h4⟩ := h1
  rw [List.length_zipIdx, stepsM_len] at hk
  rw [List.getElem_zipIdx] at h3
  cases h3
  refine ⟨k, by simp, by omega, ?_, fun j hj => ?_⟩
  · have g := stepsM_get (row := row) (i := k) (by omega)
    rw [List.getElem?_eq_getElem (by rw [stepsM_len]; omega)] at g
    have g := Option.some.inj g
    rw [g] at h2
    have h2 := of_decide_eq_true h2
    simp only at h2
    omega
  · have := h4 j hj
    rw [List.getElem_zipIdx] at this
    have g := stepsM_get (row := row) (i := j) (by omega)
    rw [List.getElem?_eq_getElem (by rw [stepsM_len]; omega)] at g
    have g := Option.some.inj g
    rw [g] at this
    simp only [Bool.not_eq_true', decide_eq_false_iff_not] at this
    omega
theorem sorted_of_up {row : List Int} : ∀ {n : Nat}, n < row.length → (∀ j, j < n → row.getD j 0 ≤ row.getD (j + 1) 0) → (row.take (n + 1)).Pairwise (· ≤ ·) ∧ ∀ x ∈ row.take (n + 1), x ≤ row.getD n 0
  | 0, h, hu => by
    cases row with
    | nil => simp at h
    | cons a r => simp
  | n + 1, h, hu => by
    obtain ⟨h1, h2⟩ := sorted_of_up (n := n) (by omega) fun j hj => hu j (by omega)
    have up := hu n (by omega)
    rw [List.take_succ_eq_append_getElem h]
    have e : row.getD (n + 1) 0 = row[n + 1] := by rw [List.getD, List.getElem?_eq_getElem h]; rfl
    rw [e] at up
    refine ⟨List.pairwise_append.mpr ⟨h1, by simp, fun a ha b hb => ?_⟩, fun x hx => ?_⟩
    · rw [List.mem_singleton] at hb
      subst hb
      have := h2 a ha
      omega
    · rw [e]
      rcases List.mem_append.mp hx with hx | hx
      · have := h2 x hx; omega
      · rw [List.mem_singleton] at hx
        omega
theorem max_ints {row : List Int} (h : 0 < row.length) : biD .max [.lst (row.map D.int)] = some (.int (maxI row), .fro) := by
  show (intsOf (row.map .int)).bind _ = _
  rw [intsOf_map, Option.bind_some, if_pos h]
theorem max_at {row : List Int} {j : Nat} (hj : j < row.length) (h : ∀ x ∈ row, x ≤ row.getD j 0) : row.getD j 0 = maxI row := by
  obtain ⟨h1, h2⟩ := maxI_spec (ns := row) (by omega)
  have m : row.getD j 0 ∈ row := by rw [List.getD, List.getElem?_eq_getElem hj]; exact List.getElem_mem _
  have := h _ h1
  have := h2 _ m
  omega
theorem max_less {row : List Int} {y : Int} (h0 : 0 < row.length) (h : ∀ j, j < row.length → row.getD j 0 < y) : maxI row < y := by
  obtain ⟨h1, _⟩ := maxI_spec (ns := row) h0
  obtain ⟨i, hi⟩ := List.mem_iff_getElem?.mp h1
  have hl := (List.getElem?_eq_some_iff.mp hi).1
  have := h i hl
  rw [List.getD, hi] at this
  exact this
theorem eq_bl {a b : Bool} : eqD (.bl a) (.bl b) = some (decide (a = b)) := by cases a <;> cases b <;> decide +kernel
theorem rec_len : ∀ (row : List Int) (b : Option Int) (i : Nat), (recM row b i).length ≤ row.length
  | [], _, _ => Nat.le_refl _
  | a :: r, b, i => by
    simp only [recM]
    split
    · exact Nat.succ_le_succ (rec_len r _ _)
    · exact Nat.le_succ_of_le (rec_len r _ _)
end DL

set_option pp.deepTerms.threshold 6
/-! W16: rows compared. -/
namespace DL
open PySem L2
/-- the first unlike place from i on, of n -/
def partF (a b : List Int) : Nat → Nat → Option Int
  | 0, _ => none
  | n + 1, i => if a[i]? = b[i]? then partF a b n (i + 1) else some ((i : Int) + 1)
def partM (a b : List Int) : Option Int := partF a b (max a.length b.length) 0
theorem partF_swap (a b : List Int) : ∀ n i, partF a b n i = partF b a n i
  | 0, _ => rfl
  | n + 1, i => by
    simp only [partF, partF_swap a b n (i + 1)]
    by_cases h : a[i]? = b[i]?
    · rw [if_pos h, if_pos h.symm]
    · rw [if_neg h, if_neg fun z => h z.symm]
theorem partM_swap (a b : List Int) : partM a b = partM b a := by unfold partM; rw [partF_swap, Nat.max_comm]
theorem partF_none (a b : List Int) : ∀ n i, partF a b n i = none ↔ ∀ j, i ≤ j → j < i + n → a[j]? = b[j]?
  | 0, i => by simp [partF]; omega
  | n + 1, i => by
    simp only [partF]
    split
    · rename_i h
      rw [partF_none a b n (i + 1)]
      constructor
      · intro q j h1 h2
        by_cases e : j = i
        · subst e; exact h
        · exact q j (by omega) (by omega)
      · intro q j h1 h2
        exact q j (by omega) (by omega)
    · rename_i h
      constructor
      · intro q; cases q
      · intro q; exact absurd (q i (Nat.le_refl _) (by omega)) h
theorem partF_some (a b : List Int) : ∀ n i d, partF a b n i = some d → ∃ j : Nat, d = (j : Int) + 1 ∧ i ≤ j ∧ j < i + n ∧ a[j]? ≠ b[j]? ∧ ∀ k, i ≤ k → k < j → a[k]? = b[k]?
  | 0, i, d, h => by cases h
  | n + 1, i, d, h => by
    simp only [partF] at h
    split at h
    · rename_i e
      obtain ⟨j, h1, h2, h3, h4, h5⟩ := partF_some a b n (i + 1) d h
      refine ⟨j, h1, by omega, by omega, h4, fun k k1 k2 => ?_⟩
      by_cases q : k = i
      · subst q; exact e
      · exact h5 k (by omega) k2
    · rename_i e
      cases h
      exact ⟨i, rfl, Nat.le_refl _, by omega, e, fun k k1 k2 => by omega⟩
theorem partM_none {a b : List Int} : partM a b = none ↔ a = b := by
  unfold partM
  rw [partF_none]
  constructor
  · intro h
    refine List.ext_getElem? fun j => ?_
    by_cases q : j < max a.length b.length
    · exact h j (Nat.zero_le _) (by omega)
    · rw [List.getElem?_eq_none (by omega), List.getElem?_eq_none (by omega)]
  · intro h j _ _
    rw [h]
theorem partF_more {a b : List Int} {n : Nat} (h : max a.length b.length ≤ n) : partF a b n 0 = partM a b := by
  cases q : partM a b with
  | none =>
    have := partM_none.mp q
    subst this
    rw [partF_none]
    exact fun _ _ _ => rfl
  | some d =>
    cases z : partF a b n 0 with
    | none =>
      rw [partF_none] at z
      have : partM a b = none := by
        unfold partM
        rw [partF_none]
        exact fun j h1 h2 => z j h1 (by omega)
      rw [this] at q; cases q
    | some d' =>
      obtain ⟨j, h1, h2, h3, h4, h5⟩ := partF_some a b _ _ _ q
      obtain ⟨j', k1, k2, k3, k4, k5⟩ := partF_some a b _ _ _ z
      rcases Nat.lt_trichotomy j j' with c | c | c
      · exact absurd (k5 j (Nat.zero_le _) c) h4
      · subst c; rw [h1, k1]
      · exact absurd (h5 j' (Nat.zero_le _) c) k4
theorem partM_some {a b : List Int} {d : Int} (h : partM a b = some d) : 1 ≤ d ∧ d ≤ max a.length b.length ∧ a.take (d - 1).toNat = b.take (d - 1).toNat := by
  obtain ⟨j, h1, h2, h3, h4, h5⟩ := partF_some a b _ _ _ h
  refine ⟨by omega, by omega, ?_⟩
  rw [show (d - 1).toNat = j by omega]
  refine List.ext_getElem? fun k => ?_
  by_cases c : k < j
  · rw [List.getElem?_take_of_lt c, List.getElem?_take_of_lt c]
    exact h5 k (Nat.zero_le _) c
  · rw [List.getElem?_eq_none (by rw [List.length_take]; omega), List.getElem?_eq_none (by rw [List.length_take]; omega)]
/-- from where on both are alike, going down from p -/
def backF (a b : List Int) : Nat → Int
  | 0 => 1
  | 1 => 1
  | p + 2 => if a[p]? = b[p]? then backF a b (p + 1) else (p : Int) + 2
def alikeM (a b : List Int) (m : Nat) : Option Int := if a.length < m ∨ b.length < m ∨ a[m - 1]? ≠ b[m - 1]? then none else some (backF a b m)
theorem backF_swap (a b : List Int) : ∀ n, backF a b n = backF b a n
  | 0 => rfl
  | 1 => rfl
  | p + 2 => by
    simp only [backF, backF_swap a b (p + 1)]
    by_cases h : a[p]? = b[p]?
    · rw [if_pos h, if_pos h.symm]
    · rw [if_neg h, if_neg fun z => h z.symm]
theorem alikeM_swap (a b : List Int) (m : Nat) : alikeM a b m = alikeM b a m := by
  unfold alikeM
  rw [backF_swap]
  by_cases h1 : a.length < m <;> by_cases h2 : b.length < m <;> by_cases h3 : a[m - 1]? = b[m - 1]?
  all_goals (first | simp [h1, h2, h3] | skip)
  have h3' : ¬ b[m - 1]? = a[m - 1]? := fun z => h3 z.symm
  simp [h3']
theorem backF_self (a : List Int) : ∀ n, backF a a n = 1
  | 0 => rfl
  | 1 => rfl
  | p + 2 => by simp only [backF, if_true]; exact backF_self a (p + 1)
theorem backF_spec (a b : List Int) : ∀ n, 1 ≤ n → ∃ p : Nat, backF a b n = p ∧ 1 ≤ p ∧ p ≤ n ∧ (∀ j, p - 1 ≤ j → j + 1 < n → a[j]? = b[j]?) ∧ (1 < p → a[p - 2]? ≠ b[p - 2]?)
  | 0, h => by omega
  | 1, _ => ⟨1, rfl, by omega, by omega, fun j h1 h2 => by omega, fun h => by omega⟩
  | p + 2, _ => by
    simp only [backF]
    split
    · rename_i h
      obtain ⟨q, h1, h2, h3, h4, h5⟩ := backF_spec a b (p + 1) (by omega)
      refine ⟨q, h1, h2, by omega, fun j j1 j2 => ?_, h5⟩
      by_cases e : j = p
      · subst e; exact h
      · exact h4 j j1 (by omega)
    · rename_i h
      exact ⟨p + 2, rfl, by omega, by omega, fun j j1 j2 => by omega, fun _ => h⟩
theorem alikeM_some {a b : List Int} {m : Nat} {p : Int} (hm : 1 ≤ m) (ha : a.length ≤ m) (hb : b.length ≤ m) (h : alikeM a b m = some p) : 1 ≤ p ∧ p ≤ m ∧ a.length = m ∧ b.length = m ∧ a.drop (p - 1).toNat = b.drop (p - 1).toNat ∧ (1 < p → a[(p - 2).toNat]? ≠ b[(p - 2).toNat]?) := by
  unfold alikeM at h
  split at h
  · cases h
  · rename_i c
    cases h
    have c1 : ¬ a.length < m := fun z => c (.inl z)
    have c2 : ¬ b.length < m := fun z => c (.inr (.inl z))
    have c3 : a[m - 1]? = b[m - 1]? := Classical.byContradiction fun z => c (.inr (.inr z))
    obtain ⟨q, h1, h2, h3, h4, h5⟩ := backF_spec a b m hm
    rw [h1]
    refine ⟨by omega, by omega, by omega, by omega, ?_, fun h => ?_⟩
    · rw [show ((q : Int) - 1).toNat = q - 1 by omega]
      refine List.ext_getElem? fun j => ?_
      rw [List.getElem?_drop, List.getElem?_drop]
      by_cases e : q - 1 + j = m - 1
      · rw [e]; exact c3
      · by_cases e2 : q - 1 + j < m - 1
        · exact h4 _ (by omega) (by omega)
        · rw [List.getElem?_eq_none (by omega), List.getElem?_eq_none (by omega)]
    · rw [show ((q : Int) - 2).toNat = q - 2 by omega]
      exact h5 (by omega)
theorem ix_ru0 {r : Ru} : ixD r.enc (.int 0) = some (.tup (r.first.map .int)) := nr rfl
theorem ix_ru1 {r : Ru} : ixD r.enc (.int 1) = some (.int r.more) := nr rfl
theorem ix_ru2 {r : Ru} : ixD r.enc (.int 2) = some (.tup (r.terms.map Tm.enc)) := nr rfl
theorem ru_ok {r : Ru} (h1 : 1 ≤ r.first.length ∧ r.first.length ≤ 6) (h2 : ∀ i ∈ r.first, 0 ≤ i ∧ i ≤ 9) (h3 : 0 ≤ r.more ∧ r.more ≤ 9) (h4 : 1 ≤ r.terms.length ∧ r.terms.length ≤ 3) (h5 : ∀ t ∈ r.terms, t.okB 3 = true) : r.Ok :=
  ⟨by simp only [Ru.okB, Bool.and_eq_true, decide_eq_true_eq, List.all_eq_true]; exact ⟨⟨⟨⟨h1, h2⟩, h3⟩, h4⟩, h5⟩⟩
/-- a statement that leaves all as it is -/
theorem HO_same {C : Call} {d : DS} {s : S} {N : S → Prop} {V : Val → S → Prop} {B : S → Prop} {E : Nat → S → Prop} (h : HO (exec C d s) (fun s' => s' = s) V B E) (hn : N s) : HO (exec C d s) N V B E := HO_cut (fun s' => s' = s) h fun s' e => by rw [e]; exact hn
theorem totM_cut (r : List Int) (k : Nat) : (totM r).take k = totM (r.take k) := by
  unfold totM
  rw [← List.map_take, List.take_range, List.length_take]
  refine List.map_congr_left fun i hi => ?_
  rw [List.mem_range] at hi
  rw [List.take_take, Nat.min_eq_left (by omega)]
/-- one number alone, by a shift -/
theorem once_one {c : List Int} {m : Nat} (hl : c.length = m + 1) : (onceD c).length = 1 ↔ c.take m = c.drop 1 := by
  constructor
  · intro h
    obtain ⟨x, hx⟩ := List.length_eq_one_iff.mp h
    have all : ∀ i, i < m + 1 → c[i]? = some x := fun i hi => by
      have : c[i]'(by omega) ∈ onceD c := mem_onceD.mpr (List.getElem_mem _)
      rw [hx, List.mem_singleton] at this
      rw [List.getElem?_eq_getElem (by omega), this]
    refine List.ext_getElem? fun i => ?_
    by_cases h : i < m
    · rw [List.getElem?_take_of_lt h, List.getElem?_drop, all i (by omega), all (1 + i) (by omega)]
    · rw [List.getElem?_eq_none (by rw [List.length_take]; omega), List.getElem?_eq_none (by rw [List.length_drop]; omega)]
  · intro h
    have up : ∀ i, i < m + 1 → c[i]? = c[0]? := fun i => by
      induction i with
      | zero => intro _; rfl
      | succ i ih =>
        intro hi
        have e : (c.take m)[i]? = (c.drop 1)[i]? := by rw [h]
        rw [List.getElem?_take_of_lt (by omega), List.getElem?_drop, Nat.add_comm 1 i] at e
        rw [← e]
        exact ih (by omega)
    have all : ∀ y ∈ onceD c, some y = c[0]? := fun y hy => by
      obtain ⟨i, hi⟩ := List.mem_iff_getElem?.mp (mem_onceD.mp hy)
      have hl := (List.getElem?_eq_some_iff.mp hi).1
      rw [← up i (by omega), hi]
    have nd := nodup_onceD c
    have ne : c[0]'(by omega) ∈ onceD c := mem_onceD.mpr (List.getElem_mem _)
    cases q : onceD c with
    | nil => rw [q] at ne; cases ne
    | cons y r =>
      cases r with
      | nil => rfl
      | cons z r =>
        rw [q] at all nd
        have e1 := all y (by simp)
        have e2 := all z (by simp)
        have : y = z := Option.some.inj (e1.trans e2.symm)
        subst this
        simp at nd
theorem eq_non : eqD .non .non = some true := by decide +kernel
theorem alikeM_self (a : List Int) (m : Nat) (h : a.length ≤ m) : alikeM a a m = if a.length = m then some 1 else none := by
  unfold alikeM
  by_cases c : a.length = m
  · rw [if_pos c, if_neg, backF_self]
    rintro (z | z | z)
    · omega
    · omega
    · exact z rfl
  · rw [if_neg c, if_pos (.inl (by omega))]
/-! pieces of one -/
theorem cut_one {xs : List Int} {i j : Int} (h : 0 ≤ i) (e : j = i + 1) : cutD (xs.map D.int) (some i) (some j) = (xs[i.toNat]?.toList).map .int := by
  subst e
  rw [cut_bothI h (by omega), show (i + 1).toNat = i.toNat + 1 by omega, ← List.map_take, ← List.map_drop]
  congr 1
  refine List.ext_getElem? fun k => ?_
  rw [List.getElem?_drop]
  cases k with
  | zero =>
    rw [Nat.add_zero, List.getElem?_take_of_lt (by omega)]
    cases xs[i.toNat]? <;> rfl
  | succ k =>
    rw [List.getElem?_eq_none (by rw [List.length_take]; omega)]
    cases xs[i.toNat]? <;> rfl
theorem ones_eq {a b : Option Int} : (a.toList = b.toList) = (a = b) := by
  cases a <;> cases b <;> simp
local macro_rules | `(tactic| walk_at "wp") => `(tactic| try simp (disch := first | assumption | omega) only [↓DL.H_ok, ↓DL.H_bind, ↓DL.H_opt, ↓DL.optK_some, ↓DL.optK_ite, ↓DL.condK_true, ↓DL.condK_false, ↓DL.condK_dec, ↓DL.condK_not, ↓DL.varK_fro, ↓DL.varK_own, ↓DL.callR_ok, ↓DL.callR_exc, ↓DL.e_var, ↓DL.e_glob, ↓DL.e_int, ↓DL.e_bl, ↓DL.e_str, ↓DL.e_non, ↓DL.e_bin, ↓DL.e_neg, ↓DL.H_asBl, ↓DL.e_not, ↓DL.e_and, ↓DL.e_or, ↓DL.e_and1, ↓DL.e_or1, ↓DL.H_if, ↓DL.e_and2, ↓DL.e_or2, ↓DL.e_cmp, ↓DL.e_chain, ↓DL.e_isN, ↓DL.e_isB, ↓DL.e_ife, ↓DL.H_ite, ↓DL.e_tup, ↓DL.e_lst, ↓DL.e_dic0, ↓DL.e_fz0, ↓DL.e_fz, ↓DL.e_es0, ↓DL.e_es, ↓DL.e_ix, ↓DL.e_slice, ↓DL.e_o0, ↓DL.e_o, ↓DL.e_bi, ↓DL.e_isi, ↓DL.e_meth, ↓DL.e_call, ↓DL.e_revs, ↓DL.e_orT, ↓DL.e_setf, ↓DL.HO_out, ↓DL.x_nil, ↓DL.x_cons, ↓DL.HO_nx, ↓DL.HO_if, ↓DL.HO_ite, ↓DL.x_asg, ↓DL.x_expr, ↓DL.x_ret, ↓DL.x_ite, ↓DL.x_pass, ↓DL.x_brk, ↓DL.x_raise, ↓DL.x_par, ↓DL.x_asgT, ↓DL.x_append', ↓DL.x_extend', ↓DL.x_setix', ↓DL.s_seq, ↓DL.s_rng1, ↓DL.s_rng2, ↓DL.s_enum, ↓DL.s_zip, ↓DL.c_none, ↓DL.c_some, DL.seqL_lst, DL.seqL_tup, DL.enumL_lst, DL.zipL_lst, DL.zipL_tup, DL.rngD_ok, DL.len_rangeI, DL.stK_mk, DL.put_fro, DL.put_fre, DL.put_bor, DL.fz_fro, DL.fz_fre, DL.fz_bor, DL.set_mk, DL.wipe_nil, DL.wipe_cons, DL.bindT_nm, DL.bindT_tp, DL.frz_mk, DL.frzC_own, DL.frzC_fro, DL.fzs_nil, DL.fzs_cons, DL.add_int, DL.add_lst, DL.add_tup, DL.sub_int, DL.mul_int, DL.mul_lst, DL.mul_tup, DL.fdiv_int, DL.md_int, DL.lt_int, DL.le_int, DL.gt_int, DL.ge_int, DL.eq_any, DL.ne_any, DL.isin_any, DL.notin_any, DL.blOf_bl, DL.intOf_int, DL.len_lst, DL.len_tup, DL.len_scr, DL.ix_lst, DL.ix_tup, DL.ix_scr, DL.ix_dic, DL.eq_int, DL.eq_lints, DL.eq_lints_nil, DL.scr_eq_nil, DL.imm_int, DL.imm_bl, DL.imm_non, DL.imm_str, DL.imm_lst, DL.imm_tup, DL.imms_nil, DL.imms_cons, DL.imms_ints, DL.own_fro, DL.own_fre, DL.own_bor, DL.ownB_own, DL.ownB_fro, DL.clOf_fro, DL.clOf_fre, DL.clOf_bor, DL.isNon_non, DL.isNon_int, DL.isNon_tup, DL.isNon_lst, DL.isNon_str, DL.slice_lst, DL.slice_tup, DL.list_lst, DL.list_tup, DL.tuple_lst, DL.tuple_tup, DL.sum_lst, DL.sum_tup, DL.all_lst, DL.max_int, DL.min_int, DL.abs_int, DL.int_bl, DL.int_int, DL.intsOf_map, DL.blsOf_map, DL.truD_lst, DL.setD_len, DL.setD_srt, DL.sorted_lst, DL.sorted_dic, DL.get1_dic, DL.get2_dic, DL.count_lst, DL.recv_get, DL.recv_count, DL.recv_index, DL.keyOf_int, DL.keyOf_str, DL.appK_own, DL.extK_own, DL.setK_dic, DL.setK_lst, DL.isOwnL_own, DL.isOwn_own, DL.isi_ii, DL.isi_ib, DL.isi_tt, DL.isi_ss, DL.isi_ll, DL.isi_bi, DL.isi_bb, DL.isi_lt, DL.isi_tl, DL.at0, DL.at1, DL.at2, DL.last1, DL.last2, DL.last3, DL.at_ints, DL.encO_some, DL.encO_none, CRes.ok.injEq, D.bl.injEq, D.int.injEq, D.lst.injEq, D.tup.injEq, D.str.injEq, DL.ints_inj, Prod.mk.injEq, if_true, if_false, Bool.false_eq_true, Bool.true_eq_false, Bool.and_true, Bool.true_and, Bool.and_self, Bool.and_false, Bool.false_and, List.length_cons, List.length_nil, List.length_map, Nat.reduceAdd, Nat.reduceLeDiff, true_and, and_true, List.zip_cons_cons, List.zip_nil_right, List.foldl_cons, List.foldl_nil, bne_self_eq_false, Bool.bne_false, Bool.bne_true, Bool.not_false, Bool.not_true, Option.map_none, List.cons_append, List.nil_append, Nat.reduceLT, or_self, and_self, or_true, true_or, or_false, false_or, and_false, false_and, Int.cast_ofNat_Int, Int.reduceLT, Int.reduceLE, Int.reduceEq, Int.reduceNeg, Int.reduceAdd, Int.reduceSub, Int.reduceToNat, true_imp_iff, false_imp_iff, not_true_eq_false, not_false_eq_true, Bool.not_eq_true, Bool.not_eq_false, List.getElem?_cons_succ, List.getElem?_cons_zero, List.set_cons_zero, List.set_cons_succ, List.map_cons, List.map_nil, List.drop_zero, List.take_zero, DL.omap, DL.obind, eq_self, decide_true, decide_false, decide_eq_true_eq, decide_eq_false_iff_not, imp_false, Classical.not_not, reduceCtorEq, implies_true, DL.sq_at_at, DL.sq_at_of, DL.sq_at_back, DL.sq_at_rest, DL.sq_of_at, DL.sq_of_of, DL.sq_of_back, DL.sq_of_rest, DL.sq_back_at, DL.sq_back_of, DL.sq_back_back, DL.sq_back_rest, DL.sq_rest_at, DL.sq_rest_of, DL.sq_rest_back, DL.sq_rest_rest, DL.imm_ru, DL.imm_enc, DL.imm_encO, DL.imms_enc, DL.run_look_rule, DL.run_look_many, DL.ones_eq, DL.cut_one])
local macro_rules | `(tactic| walk_at "ws") => `(tactic| try simp (disch := first | assumption | omega) only [↓DL.H_ok, ↓DL.H_bind, ↓DL.H_opt, ↓DL.optK_some, ↓DL.optK_ite, ↓DL.condK_true, ↓DL.condK_false, ↓DL.condK_dec, ↓DL.condK_not, ↓DL.varK_fro, ↓DL.varK_own, ↓DL.callR_ok, ↓DL.callR_exc, ↓DL.e_var, ↓DL.e_glob, ↓DL.e_int, ↓DL.e_bl, ↓DL.e_str, ↓DL.e_non, ↓DL.e_bin, ↓DL.e_neg, ↓DL.H_asBl, ↓DL.e_not, ↓DL.e_and, ↓DL.e_or, ↓DL.e_and1, ↓DL.e_or1, ↓DL.H_if, ↓DL.e_and2, ↓DL.e_or2, ↓DL.e_cmp, ↓DL.e_chain, ↓DL.e_isN, ↓DL.e_isB, ↓DL.e_ife, ↓DL.H_ite, ↓DL.e_tup, ↓DL.e_lst, ↓DL.e_dic0, ↓DL.e_fz0, ↓DL.e_fz, ↓DL.e_es0, ↓DL.e_es, ↓DL.e_ix, ↓DL.e_slice, ↓DL.e_o0, ↓DL.e_o, ↓DL.e_bi, ↓DL.e_isi, ↓DL.e_meth, ↓DL.e_call, ↓DL.e_revs, ↓DL.e_orT, ↓DL.e_setf, ↓DL.HO_out, ↓DL.x_nil, ↓DL.x_cons, ↓DL.HO_nx, ↓DL.HO_if, ↓DL.HO_ite, ↓DL.x_asg, ↓DL.x_expr, ↓DL.x_ret, ↓DL.x_ite, ↓DL.x_pass, ↓DL.x_brk, ↓DL.x_raise, ↓DL.x_par, ↓DL.x_asgT, ↓DL.x_append', ↓DL.x_extend', ↓DL.x_setix', ↓DL.s_seq, ↓DL.s_rng1, ↓DL.s_rng2, ↓DL.s_enum, ↓DL.s_zip, ↓DL.c_none, ↓DL.c_some, DL.seqL_lst, DL.seqL_tup, DL.enumL_lst, DL.zipL_lst, DL.zipL_tup, DL.rngD_ok, DL.len_rangeI, DL.stK_mk, DL.put_fro, DL.put_fre, DL.put_bor, DL.fz_fro, DL.fz_fre, DL.fz_bor, DL.set_mk, DL.wipe_nil, DL.wipe_cons, DL.bindT_nm, DL.bindT_tp, DL.frz_mk, DL.frzC_own, DL.frzC_fro, DL.fzs_nil, DL.fzs_cons, DL.add_int, DL.add_lst, DL.add_tup, DL.sub_int, DL.mul_int, DL.mul_lst, DL.mul_tup, DL.fdiv_int, DL.md_int, DL.lt_int, DL.le_int, DL.gt_int, DL.ge_int, DL.eq_any, DL.ne_any, DL.isin_any, DL.notin_any, DL.blOf_bl, DL.intOf_int, DL.len_lst, DL.len_tup, DL.len_scr, DL.ix_lst, DL.ix_tup, DL.ix_scr, DL.ix_dic, DL.eq_int, DL.eq_lints, DL.eq_lints_nil, DL.scr_eq_nil, DL.imm_int, DL.imm_bl, DL.imm_non, DL.imm_str, DL.imm_lst, DL.imm_tup, DL.imms_nil, DL.imms_cons, DL.imms_ints, DL.own_fro, DL.own_fre, DL.own_bor, DL.ownB_own, DL.ownB_fro, DL.clOf_fro, DL.clOf_fre, DL.clOf_bor, DL.isNon_non, DL.isNon_int, DL.isNon_tup, DL.isNon_lst, DL.isNon_str, DL.slice_lst, DL.slice_tup, DL.list_lst, DL.list_tup, DL.tuple_lst, DL.tuple_tup, DL.sum_lst, DL.sum_tup, DL.all_lst, DL.max_int, DL.min_int, DL.abs_int, DL.int_bl, DL.int_int, DL.intsOf_map, DL.blsOf_map, DL.truD_lst, DL.setD_len, DL.setD_srt, DL.sorted_lst, DL.sorted_dic, DL.get1_dic, DL.get2_dic, DL.count_lst, DL.recv_get, DL.recv_count, DL.recv_index, DL.keyOf_int, DL.keyOf_str, DL.appK_own, DL.extK_own, DL.setK_dic, DL.setK_lst, DL.isOwnL_own, DL.isOwn_own, DL.isi_ii, DL.isi_ib, DL.isi_tt, DL.isi_ss, DL.isi_ll, DL.isi_bi, DL.isi_bb, DL.isi_lt, DL.isi_tl, DL.at0, DL.at1, DL.at2, DL.last1, DL.last2, DL.last3, DL.at_ints, DL.encO_some, DL.encO_none, CRes.ok.injEq, D.bl.injEq, D.int.injEq, D.lst.injEq, D.tup.injEq, D.str.injEq, DL.ints_inj, Prod.mk.injEq, if_true, if_false, Bool.false_eq_true, Bool.true_eq_false, Bool.and_true, Bool.true_and, Bool.and_self, Bool.and_false, Bool.false_and, List.length_cons, List.length_nil, List.length_map, Nat.reduceAdd, Nat.reduceLeDiff, true_and, and_true, List.zip_cons_cons, List.zip_nil_right, List.foldl_cons, List.foldl_nil, bne_self_eq_false, Bool.bne_false, Bool.bne_true, Bool.not_false, Bool.not_true, Option.map_none, List.cons_append, List.nil_append, Nat.reduceLT, or_self, and_self, or_true, true_or, or_false, false_or, and_false, false_and, Int.cast_ofNat_Int, Int.reduceLT, Int.reduceLE, Int.reduceEq, Int.reduceNeg, Int.reduceAdd, Int.reduceSub, Int.reduceToNat, true_imp_iff, false_imp_iff, not_true_eq_false, not_false_eq_true, Bool.not_eq_true, Bool.not_eq_false, List.getElem?_cons_succ, List.getElem?_cons_zero, List.set_cons_zero, List.set_cons_succ, List.map_cons, List.map_nil, List.drop_zero, List.take_zero, DL.omap, DL.obind, eq_self, decide_true, decide_false, decide_eq_true_eq, decide_eq_false_iff_not, imp_false, Classical.not_not, reduceCtorEq, implies_true, DL.sq_at_at, DL.sq_at_of, DL.sq_at_back, DL.sq_at_rest, DL.sq_of_at, DL.sq_of_of, DL.sq_of_back, DL.sq_of_rest, DL.sq_back_at, DL.sq_back_of, DL.sq_back_back, DL.sq_back_rest, DL.sq_rest_at, DL.sq_rest_of, DL.sq_rest_back, DL.sq_rest_rest, DL.imm_ru, DL.imm_enc, DL.imm_encO, DL.imms_enc, DL.run_look_rule, DL.run_look_many, DL.ones_eq, DL.cut_one, *])
local macro_rules | `(tactic| walk_at "wi") => `(tactic| try simp (disch := first | assumption | omega) only [↓DL.H_ok, ↓DL.H_bind, ↓DL.H_opt, ↓DL.optK_some, ↓DL.optK_ite, ↓DL.condK_true, ↓DL.condK_false, ↓DL.condK_dec, ↓DL.condK_not, ↓DL.varK_fro, ↓DL.varK_own, ↓DL.callR_ok, ↓DL.callR_exc, ↓DL.e_var, ↓DL.e_glob, ↓DL.e_int, ↓DL.e_bl, ↓DL.e_str, ↓DL.e_non, ↓DL.e_bin, ↓DL.e_neg, ↓DL.H_asBl, ↓DL.e_not, ↓DL.e_and, ↓DL.e_or, ↓DL.e_and1, ↓DL.e_or1, ↓DL.H_if, ↓DL.e_and2, ↓DL.e_or2, ↓DL.e_cmp, ↓DL.e_chain, ↓DL.e_isN, ↓DL.e_isB, ↓DL.H_ite, ↓DL.e_tup, ↓DL.e_lst, ↓DL.e_dic0, ↓DL.e_fz0, ↓DL.e_fz, ↓DL.e_es0, ↓DL.e_es, ↓DL.e_ix, ↓DL.e_slice, ↓DL.e_o0, ↓DL.e_o, ↓DL.e_bi, ↓DL.e_isi, ↓DL.e_meth, ↓DL.e_call, ↓DL.e_revs, ↓DL.e_orT, ↓DL.e_setf, ↓DL.HO_out, ↓DL.x_nil, ↓DL.x_cons, ↓DL.HO_nx, ↓DL.HO_if, ↓DL.HO_ite, ↓DL.x_asg, ↓DL.x_expr, ↓DL.x_ret, ↓DL.x_pass, ↓DL.x_brk, ↓DL.x_raise, ↓DL.x_par, ↓DL.x_asgT, ↓DL.x_append', ↓DL.x_extend', ↓DL.x_setix', ↓DL.s_seq, ↓DL.s_rng1, ↓DL.s_rng2, ↓DL.s_enum, ↓DL.s_zip, ↓DL.c_none, ↓DL.c_some, DL.seqL_lst, DL.seqL_tup, DL.enumL_lst, DL.zipL_lst, DL.zipL_tup, DL.rngD_ok, DL.len_rangeI, DL.stK_mk, DL.put_fro, DL.put_fre, DL.put_bor, DL.fz_fro, DL.fz_fre, DL.fz_bor, DL.set_mk, DL.wipe_nil, DL.wipe_cons, DL.bindT_nm, DL.bindT_tp, DL.frz_mk, DL.frzC_own, DL.frzC_fro, DL.fzs_nil, DL.fzs_cons, DL.add_int, DL.add_lst, DL.add_tup, DL.sub_int, DL.mul_int, DL.mul_lst, DL.mul_tup, DL.fdiv_int, DL.md_int, DL.lt_int, DL.le_int, DL.gt_int, DL.ge_int, DL.eq_any, DL.ne_any, DL.isin_any, DL.notin_any, DL.blOf_bl, DL.intOf_int, DL.len_lst, DL.len_tup, DL.len_scr, DL.ix_lst, DL.ix_tup, DL.ix_scr, DL.ix_dic, DL.eq_int, DL.eq_lints, DL.eq_lints_nil, DL.scr_eq_nil, DL.imm_int, DL.imm_bl, DL.imm_non, DL.imm_str, DL.imm_lst, DL.imm_tup, DL.imms_nil, DL.imms_cons, DL.imms_ints, DL.own_fro, DL.own_fre, DL.own_bor, DL.ownB_own, DL.ownB_fro, DL.clOf_fro, DL.clOf_fre, DL.clOf_bor, DL.isNon_non, DL.isNon_int, DL.isNon_tup, DL.isNon_lst, DL.isNon_str, DL.slice_lst, DL.slice_tup, DL.list_lst, DL.list_tup, DL.tuple_lst, DL.tuple_tup, DL.sum_lst, DL.sum_tup, DL.all_lst, DL.max_int, DL.min_int, DL.abs_int, DL.int_bl, DL.int_int, DL.intsOf_map, DL.blsOf_map, DL.truD_lst, DL.setD_len, DL.setD_srt, DL.sorted_lst, DL.sorted_dic, DL.get1_dic, DL.get2_dic, DL.count_lst, DL.recv_get, DL.recv_count, DL.recv_index, DL.keyOf_int, DL.keyOf_str, DL.appK_own, DL.extK_own, DL.setK_dic, DL.setK_lst, DL.isOwnL_own, DL.isOwn_own, DL.isi_ii, DL.isi_ib, DL.isi_tt, DL.isi_ss, DL.isi_ll, DL.isi_bi, DL.isi_bb, DL.isi_lt, DL.isi_tl, DL.at0, DL.at1, DL.at2, DL.last1, DL.last2, DL.last3, DL.at_ints, DL.encO_some, DL.encO_none, CRes.ok.injEq, D.bl.injEq, D.int.injEq, D.lst.injEq, D.tup.injEq, D.str.injEq, DL.ints_inj, Prod.mk.injEq, if_true, if_false, Bool.false_eq_true, Bool.true_eq_false, Bool.and_true, Bool.true_and, Bool.and_self, Bool.and_false, Bool.false_and, List.length_cons, List.length_nil, List.length_map, Nat.reduceAdd, Nat.reduceLeDiff, true_and, and_true, List.zip_cons_cons, List.zip_nil_right, List.foldl_cons, List.foldl_nil, bne_self_eq_false, Bool.bne_false, Bool.bne_true, Bool.not_false, Bool.not_true, Option.map_none, List.cons_append, List.nil_append, Nat.reduceLT, or_self, and_self, or_true, true_or, or_false, false_or, and_false, false_and, Int.cast_ofNat_Int, Int.reduceLT, Int.reduceLE, Int.reduceEq, Int.reduceNeg, Int.reduceAdd, Int.reduceSub, Int.reduceToNat, true_imp_iff, false_imp_iff, not_true_eq_false, not_false_eq_true, Bool.not_eq_true, Bool.not_eq_false, List.getElem?_cons_succ, List.getElem?_cons_zero, List.set_cons_zero, List.set_cons_succ, List.map_cons, List.map_nil, List.drop_zero, List.take_zero, DL.omap, DL.obind, eq_self, decide_true, decide_false, decide_eq_true_eq, decide_eq_false_iff_not, imp_false, Classical.not_not, reduceCtorEq, implies_true, DL.sq_at_at, DL.sq_at_of, DL.sq_at_back, DL.sq_at_rest, DL.sq_of_at, DL.sq_of_of, DL.sq_of_back, DL.sq_of_rest, DL.sq_back_at, DL.sq_back_of, DL.sq_back_back, DL.sq_back_rest, DL.sq_rest_at, DL.sq_rest_of, DL.sq_rest_back, DL.sq_rest_rest, DL.imm_ru, DL.imm_enc, DL.imm_encO, DL.imms_enc, DL.run_look_rule, DL.run_look_many, DL.ones_eq, DL.cut_one])
local macro_rules | `(tactic| walk_at "wj") => `(tactic| try simp (disch := first | assumption | omega) only [↓DL.H_ok, ↓DL.H_bind, ↓DL.H_opt, ↓DL.optK_some, ↓DL.optK_ite, ↓DL.condK_true, ↓DL.condK_false, ↓DL.condK_dec, ↓DL.condK_not, ↓DL.varK_fro, ↓DL.varK_own, ↓DL.callR_ok, ↓DL.callR_exc, ↓DL.e_var, ↓DL.e_glob, ↓DL.e_int, ↓DL.e_bl, ↓DL.e_str, ↓DL.e_non, ↓DL.e_bin, ↓DL.e_neg, ↓DL.H_asBl, ↓DL.e_not, ↓DL.e_and, ↓DL.e_or, ↓DL.e_and1, ↓DL.e_or1, ↓DL.H_if, ↓DL.e_and2, ↓DL.e_or2, ↓DL.e_cmp, ↓DL.e_chain, ↓DL.e_isN, ↓DL.e_isB, ↓DL.H_ite, ↓DL.e_tup, ↓DL.e_lst, ↓DL.e_dic0, ↓DL.e_fz0, ↓DL.e_fz, ↓DL.e_es0, ↓DL.e_es, ↓DL.e_ix, ↓DL.e_slice, ↓DL.e_o0, ↓DL.e_o, ↓DL.e_bi, ↓DL.e_isi, ↓DL.e_meth, ↓DL.e_call, ↓DL.e_revs, ↓DL.e_orT, ↓DL.e_setf, ↓DL.HO_out, ↓DL.x_nil, ↓DL.x_cons, ↓DL.HO_nx, ↓DL.HO_if, ↓DL.HO_ite, ↓DL.x_asg, ↓DL.x_expr, ↓DL.x_ret, ↓DL.x_pass, ↓DL.x_brk, ↓DL.x_raise, ↓DL.x_par, ↓DL.x_asgT, ↓DL.x_append', ↓DL.x_extend', ↓DL.x_setix', ↓DL.s_seq, ↓DL.s_rng1, ↓DL.s_rng2, ↓DL.s_enum, ↓DL.s_zip, ↓DL.c_none, ↓DL.c_some, DL.seqL_lst, DL.seqL_tup, DL.enumL_lst, DL.zipL_lst, DL.zipL_tup, DL.rngD_ok, DL.len_rangeI, DL.stK_mk, DL.put_fro, DL.put_fre, DL.put_bor, DL.fz_fro, DL.fz_fre, DL.fz_bor, DL.set_mk, DL.wipe_nil, DL.wipe_cons, DL.bindT_nm, DL.bindT_tp, DL.frz_mk, DL.frzC_own, DL.frzC_fro, DL.fzs_nil, DL.fzs_cons, DL.add_int, DL.add_lst, DL.add_tup, DL.sub_int, DL.mul_int, DL.mul_lst, DL.mul_tup, DL.fdiv_int, DL.md_int, DL.lt_int, DL.le_int, DL.gt_int, DL.ge_int, DL.eq_any, DL.ne_any, DL.isin_any, DL.notin_any, DL.blOf_bl, DL.intOf_int, DL.len_lst, DL.len_tup, DL.len_scr, DL.ix_lst, DL.ix_tup, DL.ix_scr, DL.ix_dic, DL.eq_int, DL.eq_lints, DL.eq_lints_nil, DL.scr_eq_nil, DL.imm_int, DL.imm_bl, DL.imm_non, DL.imm_str, DL.imm_lst, DL.imm_tup, DL.imms_nil, DL.imms_cons, DL.imms_ints, DL.own_fro, DL.own_fre, DL.own_bor, DL.ownB_own, DL.ownB_fro, DL.clOf_fro, DL.clOf_fre, DL.clOf_bor, DL.isNon_non, DL.isNon_int, DL.isNon_tup, DL.isNon_lst, DL.isNon_str, DL.slice_lst, DL.slice_tup, DL.list_lst, DL.list_tup, DL.tuple_lst, DL.tuple_tup, DL.sum_lst, DL.sum_tup, DL.all_lst, DL.max_int, DL.min_int, DL.abs_int, DL.int_bl, DL.int_int, DL.intsOf_map, DL.blsOf_map, DL.truD_lst, DL.setD_len, DL.setD_srt, DL.sorted_lst, DL.sorted_dic, DL.get1_dic, DL.get2_dic, DL.count_lst, DL.recv_get, DL.recv_count, DL.recv_index, DL.keyOf_int, DL.keyOf_str, DL.appK_own, DL.extK_own, DL.setK_dic, DL.setK_lst, DL.isOwnL_own, DL.isOwn_own, DL.isi_ii, DL.isi_ib, DL.isi_tt, DL.isi_ss, DL.isi_ll, DL.isi_bi, DL.isi_bb, DL.isi_lt, DL.isi_tl, DL.at0, DL.at1, DL.at2, DL.last1, DL.last2, DL.last3, DL.at_ints, DL.encO_some, DL.encO_none, CRes.ok.injEq, D.bl.injEq, D.int.injEq, D.lst.injEq, D.tup.injEq, D.str.injEq, DL.ints_inj, Prod.mk.injEq, if_true, if_false, Bool.false_eq_true, Bool.true_eq_false, Bool.and_true, Bool.true_and, Bool.and_self, Bool.and_false, Bool.false_and, List.length_cons, List.length_nil, List.length_map, Nat.reduceAdd, Nat.reduceLeDiff, true_and, and_true, List.zip_cons_cons, List.zip_nil_right, List.foldl_cons, List.foldl_nil, bne_self_eq_false, Bool.bne_false, Bool.bne_true, Bool.not_false, Bool.not_true, Option.map_none, List.cons_append, List.nil_append, Nat.reduceLT, or_self, and_self, or_true, true_or, or_false, false_or, and_false, false_and, Int.cast_ofNat_Int, Int.reduceLT, Int.reduceLE, Int.reduceEq, Int.reduceNeg, Int.reduceAdd, Int.reduceSub, Int.reduceToNat, true_imp_iff, false_imp_iff, not_true_eq_false, not_false_eq_true, Bool.not_eq_true, Bool.not_eq_false, List.getElem?_cons_succ, List.getElem?_cons_zero, List.set_cons_zero, List.set_cons_succ, List.map_cons, List.map_nil, List.drop_zero, List.take_zero, DL.omap, DL.obind, eq_self, decide_true, decide_false, decide_eq_true_eq, decide_eq_false_iff_not, imp_false, Classical.not_not, reduceCtorEq, implies_true, DL.sq_at_at, DL.sq_at_of, DL.sq_at_back, DL.sq_at_rest, DL.sq_of_at, DL.sq_of_of, DL.sq_of_back, DL.sq_of_rest, DL.sq_back_at, DL.sq_back_of, DL.sq_back_back, DL.sq_back_rest, DL.sq_rest_at, DL.sq_rest_of, DL.sq_rest_back, DL.sq_rest_rest, DL.imm_ru, DL.imm_enc, DL.imm_encO, DL.imms_enc, DL.run_look_rule, DL.run_look_many, DL.ones_eq, DL.cut_one, *])
theorem run_parting {q : Nat} {r t : Ru} {m : Int} {w : List WObj} (hr : r.Ok) (ht : t.Ok) (h0 : 1 ≤ m) (hm : m ≤ 200) (hq : 11 ≤ q) : run T q kf_p_parting [r.enc, t.enc, .int m] w = .ok (encO (partM (r.row m.toNat) (t.row m.toNat))) false w := by
  obtain ⟨n, rfl⟩ : ∃ n, q = n + 1 := ⟨q - 1, by omega⟩
  refine run_w T_p_parting rfl [.fro r.enc, .fro t.enc, .fro (.int m), .un, .un, .un] rfl ?_
  unfold fd_p_parting
  have e1 := run_row (n := n) (w := w) hr (show 0 ≤ m by omega) (by omega) (by omega)
  have e2 := run_row (n := n) (w := w) ht (show 0 ≤ m by omega) (by omega) (by omega)
  have l1 := row_len r m.toNat
  have l2 := row_len t m.toNat
  generalize r.row m.toNat = a at *
  generalize t.row m.toNat = b at *
  walk_at "wp"
  rw [e1]
  walk_at "wp"
  rw [e2]
  walk_at "wp"
  have em : (if (b.length : Int) > a.length then (b.length : Int) else a.length) = ((max a.length b.length : Nat) : Int) := by split <;> omega
  refine x_forT (rangeI 0 ((max a.length b.length : Nat) : Int)) .int (fun s0 i s => ∃ c, partM a b = partF a b (max a.length b.length - i) i ∧ s = s0.set 5 c) ?_
  walk_at "wp"
  rw [em]
  walk_at "wp"
  refine ⟨⟨.un, rfl, rfl⟩, ?_, ?_⟩
  · rintro i x s hx ⟨c, hp, rfl⟩
    obtain ⟨rfl, hi⟩ := get_rangeI hx
    obtain ⟨k, hk⟩ : ∃ k, max a.length b.length - i = k + 1 := ⟨max a.length b.length - i - 1, by omega⟩
    rw [hk] at hp
    simp only [partF] at hp
    walk_at "wp"
    rw [show (0 + (i : Int)).toNat = i by omega]
    refine ⟨fun h => ?_, fun h => ?_⟩
    · rw [if_pos h] at hp
      exact ⟨_, by rw [hp, show max a.length b.length - (i + 1) = k by omega], rfl⟩
    · rw [if_neg h] at hp
      rw [hp, encO_some, Int.zero_add]
  · rintro s ⟨c, hp, rfl⟩
    rw [show (((max a.length b.length : Nat) : Int) - 0).toNat = max a.length b.length by omega, Nat.sub_self] at hp
    rw [hp]
    walk_at "wp"
    rfl
theorem run_alike_from {q : Nat} {r t : Ru} {m : Nat} {w : List WObj} (hr : r.Ok) (ht : t.Ok) (h0 : 1 ≤ m) (hm : m ≤ 200) (hq : 11 ≤ q) : run T q kf_p_alike_from [r.enc, t.enc, .int m] w = .ok (encO (alikeM (r.row m) (t.row m) m)) false w := by
  obtain ⟨n, rfl⟩ : ∃ n, q = n + 1 := ⟨q - 1, by omega⟩
  refine run_w T_p_alike_from rfl [.fro r.enc, .fro t.enc, .fro (.int m), .un, .un, .un] rfl ?_
  unfold fd_p_alike_from
  have e1 := run_row (n := n) (many := (m : Int)) (w := w) hr (by omega) (by omega) (by omega)
  have e2 := run_row (n := n) (many := (m : Int)) (w := w) ht (by omega) (by omega) (by omega)
  rw [Int.toNat_natCast] at e1 e2
  have l1 := row_len r m
  have l2 := row_len t m
  have p1 := row_pos r h0 hr.all.1.1
  have p2 := row_pos t h0 ht.all.1.1
  generalize r.row m = a at *
  generalize t.row m = b at *
  walk_at "wp"
  rw [e1]
  walk_at "wp"
  rw [e2]
  walk_at "wp"
  have la : a.getLast? = some (a.getD (a.length - 1) 0) := by
    rw [List.getLast?_eq_getElem?, List.getD, List.getElem?_eq_getElem (by omega)]
    rfl
  have lb : b.getLast? = some (b.getD (b.length - 1) 0) := by
    rw [List.getLast?_eq_getElem?, List.getD, List.getElem?_eq_getElem (by omega)]
    rfl
  rw [at_last la]
  walk_at "wp"
  rw [at_last lb]
  walk_at "wp"
  refine ⟨fun h => ?_, fun h1 => ⟨fun h => ?_, fun h2 => ?_⟩⟩
  · unfold alikeM
    rw [if_pos (.inl (by omega))]
    rfl
  · unfold alikeM
    rw [if_pos (.inr (.inl (by omega)))]
    rfl
  · have ea : a.length = m := by omega
    have eb : b.length = m := by omega
    have ga : ∀ i, i < m → a[i]? = some (a.getD i 0) := fun i hi => by rw [List.getD, List.getElem?_eq_getElem (by omega)]; rfl
    have gb : ∀ i, i < m → b[i]? = some (b.getD i 0) := fun i hi => by rw [List.getD, List.getElem?_eq_getElem (by omega)]; rfl
    rw [ea, eb]
    refine ⟨fun h3 => ?_, fun h3 => ?_⟩
    · have am : alikeM a b m = some (backF a b m) := by
        unfold alikeM
        rw [if_neg]
        rintro (z | z | z)
        · omega
        · omega
        · exact z (by rw [ga _ (by omega), gb _ (by omega), h3])
      rw [am]
      refine x_whileT m (fun s0 j s => ∃ p : Nat, 1 ≤ p ∧ p ≤ m ∧ p ≤ j ∧ backF a b m = backF a b p ∧ s = s0.set 5 (.fro (.int p))) (by omega) ⟨m, h0, Nat.le_refl _, Nat.le_refl _, rfl, rfl⟩ ?_
      rintro j s ⟨p, q1, q2, q3, q4, rfl⟩
      walk_at "wp"
      refine ⟨fun g => ?_, fun g => ?_⟩
      · obtain ⟨p, rfl⟩ : ∃ p', p = p' + 2 := ⟨p - 2, by omega⟩
        simp only [backF, ga p (by omega), gb p (by omega), Option.some.injEq] at q4
        rw [at_ints (by omega) (by omega)]
        walk_at "wp"
        rw [show (((p + 2 : Nat) : Int) - 2).toNat = p by omega]
        refine ⟨fun e => ?_, fun e => ?_⟩
        · rw [if_pos e] at q4
          exact ⟨j - 1, by omega, p + 1, by omega, by omega, by omega, q4, by rw [show (((p + 2 : Nat) : Int) - 1) = ((p + 1 : Nat) : Int) by omega]⟩
        · rw [if_neg e] at q4
          rw [q4]
          omega
      · have : p = 1 := by omega
        subst this
        rw [q4]
        rfl
    · unfold alikeM
      rw [if_pos (.inr (.inr (by rw [ga _ (by omega), gb _ (by omega)]; simpa using h3)))]
      rfl
theorem run_shifted {q : Nat} {r t : Ru} {m b : Nat} {w : List WObj} (hr : r.Ok) (ht : t.Ok) (h0 : 1 ≤ m) (hb : 1 ≤ b) (hm : m + b ≤ 200) (hq : 11 ≤ q) : run T q kf_p_shifted_alike [r.enc, t.enc, .int b, .int m] w = .ok (.bl (decide ((r.row m).length = m ∧ (t.row (m + b)).length = m + b ∧ r.row m = (t.row (m + b)).drop b))) false w := by
  obtain ⟨n, rfl⟩ : ∃ n, q = n + 1 := ⟨q - 1, by omega⟩
  refine run_w T_p_shifted_alike rfl [.fro r.enc, .fro t.enc, .fro (.int b), .fro (.int m), .un, .un] rfl ?_
  unfold fd_p_shifted_alike
  have e1 := run_row (n := n) (many := (m : Int)) (w := w) hr (by omega) (by omega) (by omega)
  have e2 := run_row (n := n) (many := (m : Int) + b) (w := w) ht (by omega) (by omega) (by omega)
  rw [Int.toNat_natCast] at e1
  rw [show ((m : Int) + b).toNat = m + b by omega] at e2
  generalize r.row m = x at *
  generalize t.row (m + b) = y at *
  walk_at "wp"
  rw [e1]
  walk_at "wp"
  rw [e2]
  walk_at "wp"
  refine ⟨fun h1 => ⟨fun h2 => ?_, fun h2 z => h2 (by omega)⟩, fun h1 z => h1 (by omega)⟩
  rw [cut_dropI (by omega), Int.toNat_natCast, ← List.map_drop]
  walk_at "wp"
  rw [decide_eq_decide]
  exact ⟨fun z => z.2.2, fun z => ⟨by omega, by omega, z⟩⟩
end DL

set_option pp.deepTerms.threshold 6
/-! K65: law k65. -/
namespace DL
open PySem L2
theorem get_revI {M i : Nat} {x : Int} (h : (rangeI 1 ((M : Int) + 1)).reverse[i]? = some x) : x = (M : Int) - i ∧ i < M := by
  have hl := (List.getElem?_eq_some_iff.mp h).1
  rw [List.length_reverse, len_rangeI] at hl
  rw [List.getElem?_reverse (by rw [len_rangeI]; omega), len_rangeI] at h
  obtain ⟨rfl, _⟩ := get_rangeI h
  exact ⟨by omega, by omega⟩
local macro_rules | `(tactic| walk_at "wp") => `(tactic| try simp (disch := first | assumption | omega) only [↓DL.H_ok, ↓DL.H_bind, ↓DL.H_opt, ↓DL.optK_some, ↓DL.optK_ite, ↓DL.condK_true, ↓DL.condK_false, ↓DL.condK_dec, ↓DL.condK_not, ↓DL.varK_fro, ↓DL.varK_own, ↓DL.callR_ok, ↓DL.callR_exc, ↓DL.e_var, ↓DL.e_glob, ↓DL.e_int, ↓DL.e_bl, ↓DL.e_str, ↓DL.e_non, ↓DL.e_bin, ↓DL.e_neg, ↓DL.H_asBl, ↓DL.e_not, ↓DL.e_and, ↓DL.e_or, ↓DL.e_and1, ↓DL.e_or1, ↓DL.H_if, ↓DL.e_and2, ↓DL.e_or2, ↓DL.e_cmp, ↓DL.e_chain, ↓DL.e_isN, ↓DL.e_isB, ↓DL.e_ife, ↓DL.H_ite, ↓DL.e_tup, ↓DL.e_lst, ↓DL.e_dic0, ↓DL.e_fz0, ↓DL.e_fz, ↓DL.e_es0, ↓DL.e_es, ↓DL.e_ix, ↓DL.e_slice, ↓DL.e_o0, ↓DL.e_o, ↓DL.e_bi, ↓DL.e_isi, ↓DL.e_meth, ↓DL.e_call, ↓DL.e_revs, ↓DL.e_orT, ↓DL.e_setf, ↓DL.HO_out, ↓DL.x_nil, ↓DL.x_cons, ↓DL.HO_nx, ↓DL.HO_if, ↓DL.HO_ite, ↓DL.x_asg, ↓DL.x_expr, ↓DL.x_ret, ↓DL.x_ite, ↓DL.x_pass, ↓DL.x_brk, ↓DL.x_raise, ↓DL.x_par, ↓DL.x_asgT, ↓DL.x_append', ↓DL.x_extend', ↓DL.x_setix', ↓DL.s_seq, ↓DL.s_rng1, ↓DL.s_rng2, ↓DL.s_enum, ↓DL.s_zip, ↓DL.c_none, ↓DL.c_some, DL.seqL_lst, DL.seqL_tup, DL.enumL_lst, DL.zipL_lst, DL.zipL_tup, DL.rngD_ok, DL.len_rangeI, DL.stK_mk, DL.put_fro, DL.put_fre, DL.put_bor, DL.fz_fro, DL.fz_fre, DL.fz_bor, DL.set_mk, DL.wipe_nil, DL.wipe_cons, DL.bindT_nm, DL.bindT_tp, DL.frz_mk, DL.frzC_own, DL.frzC_fro, DL.fzs_nil, DL.fzs_cons, DL.add_int, DL.add_lst, DL.add_tup, DL.sub_int, DL.mul_int, DL.mul_lst, DL.mul_tup, DL.fdiv_int, DL.md_int, DL.lt_int, DL.le_int, DL.gt_int, DL.ge_int, DL.eq_any, DL.ne_any, DL.isin_any, DL.notin_any, DL.blOf_bl, DL.intOf_int, DL.len_lst, DL.len_tup, DL.len_scr, DL.ix_lst, DL.ix_tup, DL.ix_scr, DL.ix_dic, DL.eq_int, DL.eq_lints, DL.eq_lints_nil, DL.scr_eq_nil, DL.imm_int, DL.imm_bl, DL.imm_non, DL.imm_str, DL.imm_lst, DL.imm_tup, DL.imms_nil, DL.imms_cons, DL.imms_ints, DL.own_fro, DL.own_fre, DL.own_bor, DL.ownB_own, DL.ownB_fro, DL.clOf_fro, DL.clOf_fre, DL.clOf_bor, DL.isNon_non, DL.isNon_int, DL.isNon_tup, DL.isNon_lst, DL.isNon_str, DL.slice_lst, DL.slice_tup, DL.list_lst, DL.list_tup, DL.tuple_lst, DL.tuple_tup, DL.sum_lst, DL.sum_tup, DL.all_lst, DL.max_int, DL.min_int, DL.abs_int, DL.int_bl, DL.int_int, DL.intsOf_map, DL.blsOf_map, DL.truD_lst, DL.setD_len, DL.setD_srt, DL.sorted_lst, DL.sorted_dic, DL.get1_dic, DL.get2_dic, DL.count_lst, DL.recv_get, DL.recv_count, DL.recv_index, DL.keyOf_int, DL.keyOf_str, DL.appK_own, DL.extK_own, DL.setK_dic, DL.setK_lst, DL.isOwnL_own, DL.isOwn_own, DL.isi_ii, DL.isi_ib, DL.isi_tt, DL.isi_ss, DL.isi_ll, DL.isi_bi, DL.isi_bb, DL.isi_lt, DL.isi_tl, DL.at0, DL.at1, DL.at2, DL.last1, DL.last2, DL.last3, DL.at_ints, DL.encO_some, DL.encO_none, CRes.ok.injEq, D.bl.injEq, D.int.injEq, D.lst.injEq, D.tup.injEq, D.str.injEq, DL.ints_inj, Prod.mk.injEq, if_true, if_false, Bool.false_eq_true, Bool.true_eq_false, Bool.and_true, Bool.true_and, Bool.and_self, Bool.and_false, Bool.false_and, List.length_cons, List.length_nil, List.length_map, Nat.reduceAdd, Nat.reduceLeDiff, true_and, and_true, List.zip_cons_cons, List.zip_nil_right, List.foldl_cons, List.foldl_nil, bne_self_eq_false, Bool.bne_false, Bool.bne_true, Bool.not_false, Bool.not_true, Option.map_none, List.cons_append, List.nil_append, Nat.reduceLT, or_self, and_self, or_true, true_or, or_false, false_or, and_false, false_and, Int.cast_ofNat_Int, Int.reduceLT, Int.reduceLE, Int.reduceEq, Int.reduceNeg, Int.reduceAdd, Int.reduceSub, Int.reduceToNat, true_imp_iff, false_imp_iff, not_true_eq_false, not_false_eq_true, Bool.not_eq_true, Bool.not_eq_false, List.getElem?_cons_succ, List.getElem?_cons_zero, List.set_cons_zero, List.set_cons_succ, List.map_cons, List.map_nil, List.drop_zero, List.take_zero, DL.omap, DL.obind, eq_self, decide_true, decide_false, decide_eq_true_eq, decide_eq_false_iff_not, imp_false, Classical.not_not, reduceCtorEq, implies_true, DL.sq_at_at, DL.sq_at_of, DL.sq_at_back, DL.sq_at_rest, DL.sq_of_at, DL.sq_of_of, DL.sq_of_back, DL.sq_of_rest, DL.sq_back_at, DL.sq_back_of, DL.sq_back_back, DL.sq_back_rest, DL.sq_rest_at, DL.sq_rest_of, DL.sq_rest_back, DL.sq_rest_rest, DL.imm_ru, DL.imm_enc, DL.imm_encO, DL.imms_enc, DL.run_pk, DL.run_ruleB, DL.ones_eq, DL.cut_one, DL.eq_encO, DL.eq_bl, DL.eq_non, DL.ix_ru0, DL.ix_ru1, DL.ix_ru2, ↓DL.e_srtI, ↓DL.e_lrng, DL.lrng_ok])
local macro_rules | `(tactic| walk_at "ws") => `(tactic| try simp (disch := first | assumption | omega) only [↓DL.H_ok, ↓DL.H_bind, ↓DL.H_opt, ↓DL.optK_some, ↓DL.optK_ite, ↓DL.condK_true, ↓DL.condK_false, ↓DL.condK_dec, ↓DL.condK_not, ↓DL.varK_fro, ↓DL.varK_own, ↓DL.callR_ok, ↓DL.callR_exc, ↓DL.e_var, ↓DL.e_glob, ↓DL.e_int, ↓DL.e_bl, ↓DL.e_str, ↓DL.e_non, ↓DL.e_bin, ↓DL.e_neg, ↓DL.H_asBl, ↓DL.e_not, ↓DL.e_and, ↓DL.e_or, ↓DL.e_and1, ↓DL.e_or1, ↓DL.H_if, ↓DL.e_and2, ↓DL.e_or2, ↓DL.e_cmp, ↓DL.e_chain, ↓DL.e_isN, ↓DL.e_isB, ↓DL.e_ife, ↓DL.H_ite, ↓DL.e_tup, ↓DL.e_lst, ↓DL.e_dic0, ↓DL.e_fz0, ↓DL.e_fz, ↓DL.e_es0, ↓DL.e_es, ↓DL.e_ix, ↓DL.e_slice, ↓DL.e_o0, ↓DL.e_o, ↓DL.e_bi, ↓DL.e_isi, ↓DL.e_meth, ↓DL.e_call, ↓DL.e_revs, ↓DL.e_orT, ↓DL.e_setf, ↓DL.HO_out, ↓DL.x_nil, ↓DL.x_cons, ↓DL.HO_nx, ↓DL.HO_if, ↓DL.HO_ite, ↓DL.x_asg, ↓DL.x_expr, ↓DL.x_ret, ↓DL.x_ite, ↓DL.x_pass, ↓DL.x_brk, ↓DL.x_raise, ↓DL.x_par, ↓DL.x_asgT, ↓DL.x_append', ↓DL.x_extend', ↓DL.x_setix', ↓DL.s_seq, ↓DL.s_rng1, ↓DL.s_rng2, ↓DL.s_enum, ↓DL.s_zip, ↓DL.c_none, ↓DL.c_some, DL.seqL_lst, DL.seqL_tup, DL.enumL_lst, DL.zipL_lst, DL.zipL_tup, DL.rngD_ok, DL.len_rangeI, DL.stK_mk, DL.put_fro, DL.put_fre, DL.put_bor, DL.fz_fro, DL.fz_fre, DL.fz_bor, DL.set_mk, DL.wipe_nil, DL.wipe_cons, DL.bindT_nm, DL.bindT_tp, DL.frz_mk, DL.frzC_own, DL.frzC_fro, DL.fzs_nil, DL.fzs_cons, DL.add_int, DL.add_lst, DL.add_tup, DL.sub_int, DL.mul_int, DL.mul_lst, DL.mul_tup, DL.fdiv_int, DL.md_int, DL.lt_int, DL.le_int, DL.gt_int, DL.ge_int, DL.eq_any, DL.ne_any, DL.isin_any, DL.notin_any, DL.blOf_bl, DL.intOf_int, DL.len_lst, DL.len_tup, DL.len_scr, DL.ix_lst, DL.ix_tup, DL.ix_scr, DL.ix_dic, DL.eq_int, DL.eq_lints, DL.eq_lints_nil, DL.scr_eq_nil, DL.imm_int, DL.imm_bl, DL.imm_non, DL.imm_str, DL.imm_lst, DL.imm_tup, DL.imms_nil, DL.imms_cons, DL.imms_ints, DL.own_fro, DL.own_fre, DL.own_bor, DL.ownB_own, DL.ownB_fro, DL.clOf_fro, DL.clOf_fre, DL.clOf_bor, DL.isNon_non, DL.isNon_int, DL.isNon_tup, DL.isNon_lst, DL.isNon_str, DL.slice_lst, DL.slice_tup, DL.list_lst, DL.list_tup, DL.tuple_lst, DL.tuple_tup, DL.sum_lst, DL.sum_tup, DL.all_lst, DL.max_int, DL.min_int, DL.abs_int, DL.int_bl, DL.int_int, DL.intsOf_map, DL.blsOf_map, DL.truD_lst, DL.setD_len, DL.setD_srt, DL.sorted_lst, DL.sorted_dic, DL.get1_dic, DL.get2_dic, DL.count_lst, DL.recv_get, DL.recv_count, DL.recv_index, DL.keyOf_int, DL.keyOf_str, DL.appK_own, DL.extK_own, DL.setK_dic, DL.setK_lst, DL.isOwnL_own, DL.isOwn_own, DL.isi_ii, DL.isi_ib, DL.isi_tt, DL.isi_ss, DL.isi_ll, DL.isi_bi, DL.isi_bb, DL.isi_lt, DL.isi_tl, DL.at0, DL.at1, DL.at2, DL.last1, DL.last2, DL.last3, DL.at_ints, DL.encO_some, DL.encO_none, CRes.ok.injEq, D.bl.injEq, D.int.injEq, D.lst.injEq, D.tup.injEq, D.str.injEq, DL.ints_inj, Prod.mk.injEq, if_true, if_false, Bool.false_eq_true, Bool.true_eq_false, Bool.and_true, Bool.true_and, Bool.and_self, Bool.and_false, Bool.false_and, List.length_cons, List.length_nil, List.length_map, Nat.reduceAdd, Nat.reduceLeDiff, true_and, and_true, List.zip_cons_cons, List.zip_nil_right, List.foldl_cons, List.foldl_nil, bne_self_eq_false, Bool.bne_false, Bool.bne_true, Bool.not_false, Bool.not_true, Option.map_none, List.cons_append, List.nil_append, Nat.reduceLT, or_self, and_self, or_true, true_or, or_false, false_or, and_false, false_and, Int.cast_ofNat_Int, Int.reduceLT, Int.reduceLE, Int.reduceEq, Int.reduceNeg, Int.reduceAdd, Int.reduceSub, Int.reduceToNat, true_imp_iff, false_imp_iff, not_true_eq_false, not_false_eq_true, Bool.not_eq_true, Bool.not_eq_false, List.getElem?_cons_succ, List.getElem?_cons_zero, List.set_cons_zero, List.set_cons_succ, List.map_cons, List.map_nil, List.drop_zero, List.take_zero, DL.omap, DL.obind, eq_self, decide_true, decide_false, decide_eq_true_eq, decide_eq_false_iff_not, imp_false, Classical.not_not, reduceCtorEq, implies_true, DL.sq_at_at, DL.sq_at_of, DL.sq_at_back, DL.sq_at_rest, DL.sq_of_at, DL.sq_of_of, DL.sq_of_back, DL.sq_of_rest, DL.sq_back_at, DL.sq_back_of, DL.sq_back_back, DL.sq_back_rest, DL.sq_rest_at, DL.sq_rest_of, DL.sq_rest_back, DL.sq_rest_rest, DL.imm_ru, DL.imm_enc, DL.imm_encO, DL.imms_enc, DL.run_pk, DL.run_ruleB, DL.ones_eq, DL.cut_one, DL.eq_encO, DL.eq_bl, DL.eq_non, DL.ix_ru0, DL.ix_ru1, DL.ix_ru2, ↓DL.e_srtI, ↓DL.e_lrng, DL.lrng_ok, *])
local macro_rules | `(tactic| walk_at "wi") => `(tactic| try simp (disch := first | assumption | omega) only [↓DL.H_ok, ↓DL.H_bind, ↓DL.H_opt, ↓DL.optK_some, ↓DL.optK_ite, ↓DL.condK_true, ↓DL.condK_false, ↓DL.condK_dec, ↓DL.condK_not, ↓DL.varK_fro, ↓DL.varK_own, ↓DL.callR_ok, ↓DL.callR_exc, ↓DL.e_var, ↓DL.e_glob, ↓DL.e_int, ↓DL.e_bl, ↓DL.e_str, ↓DL.e_non, ↓DL.e_bin, ↓DL.e_neg, ↓DL.H_asBl, ↓DL.e_not, ↓DL.e_and, ↓DL.e_or, ↓DL.e_and1, ↓DL.e_or1, ↓DL.H_if, ↓DL.e_and2, ↓DL.e_or2, ↓DL.e_cmp, ↓DL.e_chain, ↓DL.e_isN, ↓DL.e_isB, ↓DL.H_ite, ↓DL.e_tup, ↓DL.e_lst, ↓DL.e_dic0, ↓DL.e_fz0, ↓DL.e_fz, ↓DL.e_es0, ↓DL.e_es, ↓DL.e_ix, ↓DL.e_slice, ↓DL.e_o0, ↓DL.e_o, ↓DL.e_bi, ↓DL.e_isi, ↓DL.e_meth, ↓DL.e_call, ↓DL.e_revs, ↓DL.e_orT, ↓DL.e_setf, ↓DL.HO_out, ↓DL.x_nil, ↓DL.x_cons, ↓DL.HO_nx, ↓DL.HO_if, ↓DL.HO_ite, ↓DL.x_asg, ↓DL.x_expr, ↓DL.x_ret, ↓DL.x_pass, ↓DL.x_brk, ↓DL.x_raise, ↓DL.x_par, ↓DL.x_asgT, ↓DL.x_append', ↓DL.x_extend', ↓DL.x_setix', ↓DL.s_seq, ↓DL.s_rng1, ↓DL.s_rng2, ↓DL.s_enum, ↓DL.s_zip, ↓DL.c_none, ↓DL.c_some, DL.seqL_lst, DL.seqL_tup, DL.enumL_lst, DL.zipL_lst, DL.zipL_tup, DL.rngD_ok, DL.len_rangeI, DL.stK_mk, DL.put_fro, DL.put_fre, DL.put_bor, DL.fz_fro, DL.fz_fre, DL.fz_bor, DL.set_mk, DL.wipe_nil, DL.wipe_cons, DL.bindT_nm, DL.bindT_tp, DL.frz_mk, DL.frzC_own, DL.frzC_fro, DL.fzs_nil, DL.fzs_cons, DL.add_int, DL.add_lst, DL.add_tup, DL.sub_int, DL.mul_int, DL.mul_lst, DL.mul_tup, DL.fdiv_int, DL.md_int, DL.lt_int, DL.le_int, DL.gt_int, DL.ge_int, DL.eq_any, DL.ne_any, DL.isin_any, DL.notin_any, DL.blOf_bl, DL.intOf_int, DL.len_lst, DL.len_tup, DL.len_scr, DL.ix_lst, DL.ix_tup, DL.ix_scr, DL.ix_dic, DL.eq_int, DL.eq_lints, DL.eq_lints_nil, DL.scr_eq_nil, DL.imm_int, DL.imm_bl, DL.imm_non, DL.imm_str, DL.imm_lst, DL.imm_tup, DL.imms_nil, DL.imms_cons, DL.imms_ints, DL.own_fro, DL.own_fre, DL.own_bor, DL.ownB_own, DL.ownB_fro, DL.clOf_fro, DL.clOf_fre, DL.clOf_bor, DL.isNon_non, DL.isNon_int, DL.isNon_tup, DL.isNon_lst, DL.isNon_str, DL.slice_lst, DL.slice_tup, DL.list_lst, DL.list_tup, DL.tuple_lst, DL.tuple_tup, DL.sum_lst, DL.sum_tup, DL.all_lst, DL.max_int, DL.min_int, DL.abs_int, DL.int_bl, DL.int_int, DL.intsOf_map, DL.blsOf_map, DL.truD_lst, DL.setD_len, DL.setD_srt, DL.sorted_lst, DL.sorted_dic, DL.get1_dic, DL.get2_dic, DL.count_lst, DL.recv_get, DL.recv_count, DL.recv_index, DL.keyOf_int, DL.keyOf_str, DL.appK_own, DL.extK_own, DL.setK_dic, DL.setK_lst, DL.isOwnL_own, DL.isOwn_own, DL.isi_ii, DL.isi_ib, DL.isi_tt, DL.isi_ss, DL.isi_ll, DL.isi_bi, DL.isi_bb, DL.isi_lt, DL.isi_tl, DL.at0, DL.at1, DL.at2, DL.last1, DL.last2, DL.last3, DL.at_ints, DL.encO_some, DL.encO_none, CRes.ok.injEq, D.bl.injEq, D.int.injEq, D.lst.injEq, D.tup.injEq, D.str.injEq, DL.ints_inj, Prod.mk.injEq, if_true, if_false, Bool.false_eq_true, Bool.true_eq_false, Bool.and_true, Bool.true_and, Bool.and_self, Bool.and_false, Bool.false_and, List.length_cons, List.length_nil, List.length_map, Nat.reduceAdd, Nat.reduceLeDiff, true_and, and_true, List.zip_cons_cons, List.zip_nil_right, List.foldl_cons, List.foldl_nil, bne_self_eq_false, Bool.bne_false, Bool.bne_true, Bool.not_false, Bool.not_true, Option.map_none, List.cons_append, List.nil_append, Nat.reduceLT, or_self, and_self, or_true, true_or, or_false, false_or, and_false, false_and, Int.cast_ofNat_Int, Int.reduceLT, Int.reduceLE, Int.reduceEq, Int.reduceNeg, Int.reduceAdd, Int.reduceSub, Int.reduceToNat, true_imp_iff, false_imp_iff, not_true_eq_false, not_false_eq_true, Bool.not_eq_true, Bool.not_eq_false, List.getElem?_cons_succ, List.getElem?_cons_zero, List.set_cons_zero, List.set_cons_succ, List.map_cons, List.map_nil, List.drop_zero, List.take_zero, DL.omap, DL.obind, eq_self, decide_true, decide_false, decide_eq_true_eq, decide_eq_false_iff_not, imp_false, Classical.not_not, reduceCtorEq, implies_true, DL.sq_at_at, DL.sq_at_of, DL.sq_at_back, DL.sq_at_rest, DL.sq_of_at, DL.sq_of_of, DL.sq_of_back, DL.sq_of_rest, DL.sq_back_at, DL.sq_back_of, DL.sq_back_back, DL.sq_back_rest, DL.sq_rest_at, DL.sq_rest_of, DL.sq_rest_back, DL.sq_rest_rest, DL.imm_ru, DL.imm_enc, DL.imm_encO, DL.imms_enc, DL.run_pk, DL.run_ruleB, DL.ones_eq, DL.cut_one, DL.eq_encO, DL.eq_bl, DL.eq_non, DL.ix_ru0, DL.ix_ru1, DL.ix_ru2, ↓DL.e_srtI, ↓DL.e_lrng, DL.lrng_ok])
local macro_rules | `(tactic| walk_at "wj") => `(tactic| try simp (disch := first | assumption | omega) only [↓DL.H_ok, ↓DL.H_bind, ↓DL.H_opt, ↓DL.optK_some, ↓DL.optK_ite, ↓DL.condK_true, ↓DL.condK_false, ↓DL.condK_dec, ↓DL.condK_not, ↓DL.varK_fro, ↓DL.varK_own, ↓DL.callR_ok, ↓DL.callR_exc, ↓DL.e_var, ↓DL.e_glob, ↓DL.e_int, ↓DL.e_bl, ↓DL.e_str, ↓DL.e_non, ↓DL.e_bin, ↓DL.e_neg, ↓DL.H_asBl, ↓DL.e_not, ↓DL.e_and, ↓DL.e_or, ↓DL.e_and1, ↓DL.e_or1, ↓DL.H_if, ↓DL.e_and2, ↓DL.e_or2, ↓DL.e_cmp, ↓DL.e_chain, ↓DL.e_isN, ↓DL.e_isB, ↓DL.H_ite, ↓DL.e_tup, ↓DL.e_lst, ↓DL.e_dic0, ↓DL.e_fz0, ↓DL.e_fz, ↓DL.e_es0, ↓DL.e_es, ↓DL.e_ix, ↓DL.e_slice, ↓DL.e_o0, ↓DL.e_o, ↓DL.e_bi, ↓DL.e_isi, ↓DL.e_meth, ↓DL.e_call, ↓DL.e_revs, ↓DL.e_orT, ↓DL.e_setf, ↓DL.HO_out, ↓DL.x_nil, ↓DL.x_cons, ↓DL.HO_nx, ↓DL.HO_if, ↓DL.HO_ite, ↓DL.x_asg, ↓DL.x_expr, ↓DL.x_ret, ↓DL.x_pass, ↓DL.x_brk, ↓DL.x_raise, ↓DL.x_par, ↓DL.x_asgT, ↓DL.x_append', ↓DL.x_extend', ↓DL.x_setix', ↓DL.s_seq, ↓DL.s_rng1, ↓DL.s_rng2, ↓DL.s_enum, ↓DL.s_zip, ↓DL.c_none, ↓DL.c_some, DL.seqL_lst, DL.seqL_tup, DL.enumL_lst, DL.zipL_lst, DL.zipL_tup, DL.rngD_ok, DL.len_rangeI, DL.stK_mk, DL.put_fro, DL.put_fre, DL.put_bor, DL.fz_fro, DL.fz_fre, DL.fz_bor, DL.set_mk, DL.wipe_nil, DL.wipe_cons, DL.bindT_nm, DL.bindT_tp, DL.frz_mk, DL.frzC_own, DL.frzC_fro, DL.fzs_nil, DL.fzs_cons, DL.add_int, DL.add_lst, DL.add_tup, DL.sub_int, DL.mul_int, DL.mul_lst, DL.mul_tup, DL.fdiv_int, DL.md_int, DL.lt_int, DL.le_int, DL.gt_int, DL.ge_int, DL.eq_any, DL.ne_any, DL.isin_any, DL.notin_any, DL.blOf_bl, DL.intOf_int, DL.len_lst, DL.len_tup, DL.len_scr, DL.ix_lst, DL.ix_tup, DL.ix_scr, DL.ix_dic, DL.eq_int, DL.eq_lints, DL.eq_lints_nil, DL.scr_eq_nil, DL.imm_int, DL.imm_bl, DL.imm_non, DL.imm_str, DL.imm_lst, DL.imm_tup, DL.imms_nil, DL.imms_cons, DL.imms_ints, DL.own_fro, DL.own_fre, DL.own_bor, DL.ownB_own, DL.ownB_fro, DL.clOf_fro, DL.clOf_fre, DL.clOf_bor, DL.isNon_non, DL.isNon_int, DL.isNon_tup, DL.isNon_lst, DL.isNon_str, DL.slice_lst, DL.slice_tup, DL.list_lst, DL.list_tup, DL.tuple_lst, DL.tuple_tup, DL.sum_lst, DL.sum_tup, DL.all_lst, DL.max_int, DL.min_int, DL.abs_int, DL.int_bl, DL.int_int, DL.intsOf_map, DL.blsOf_map, DL.truD_lst, DL.setD_len, DL.setD_srt, DL.sorted_lst, DL.sorted_dic, DL.get1_dic, DL.get2_dic, DL.count_lst, DL.recv_get, DL.recv_count, DL.recv_index, DL.keyOf_int, DL.keyOf_str, DL.appK_own, DL.extK_own, DL.setK_dic, DL.setK_lst, DL.isOwnL_own, DL.isOwn_own, DL.isi_ii, DL.isi_ib, DL.isi_tt, DL.isi_ss, DL.isi_ll, DL.isi_bi, DL.isi_bb, DL.isi_lt, DL.isi_tl, DL.at0, DL.at1, DL.at2, DL.last1, DL.last2, DL.last3, DL.at_ints, DL.encO_some, DL.encO_none, CRes.ok.injEq, D.bl.injEq, D.int.injEq, D.lst.injEq, D.tup.injEq, D.str.injEq, DL.ints_inj, Prod.mk.injEq, if_true, if_false, Bool.false_eq_true, Bool.true_eq_false, Bool.and_true, Bool.true_and, Bool.and_self, Bool.and_false, Bool.false_and, List.length_cons, List.length_nil, List.length_map, Nat.reduceAdd, Nat.reduceLeDiff, true_and, and_true, List.zip_cons_cons, List.zip_nil_right, List.foldl_cons, List.foldl_nil, bne_self_eq_false, Bool.bne_false, Bool.bne_true, Bool.not_false, Bool.not_true, Option.map_none, List.cons_append, List.nil_append, Nat.reduceLT, or_self, and_self, or_true, true_or, or_false, false_or, and_false, false_and, Int.cast_ofNat_Int, Int.reduceLT, Int.reduceLE, Int.reduceEq, Int.reduceNeg, Int.reduceAdd, Int.reduceSub, Int.reduceToNat, true_imp_iff, false_imp_iff, not_true_eq_false, not_false_eq_true, Bool.not_eq_true, Bool.not_eq_false, List.getElem?_cons_succ, List.getElem?_cons_zero, List.set_cons_zero, List.set_cons_succ, List.map_cons, List.map_nil, List.drop_zero, List.take_zero, DL.omap, DL.obind, eq_self, decide_true, decide_false, decide_eq_true_eq, decide_eq_false_iff_not, imp_false, Classical.not_not, reduceCtorEq, implies_true, DL.sq_at_at, DL.sq_at_of, DL.sq_at_back, DL.sq_at_rest, DL.sq_of_at, DL.sq_of_of, DL.sq_of_back, DL.sq_of_rest, DL.sq_back_at, DL.sq_back_of, DL.sq_back_back, DL.sq_back_rest, DL.sq_rest_at, DL.sq_rest_of, DL.sq_rest_back, DL.sq_rest_rest, DL.imm_ru, DL.imm_enc, DL.imm_encO, DL.imms_enc, DL.run_pk, DL.run_ruleB, DL.ones_eq, DL.cut_one, DL.eq_encO, DL.eq_bl, DL.eq_non, DL.ix_ru0, DL.ix_ru1, DL.ix_ru2, ↓DL.e_srtI, ↓DL.e_lrng, DL.lrng_ok, *])
theorem run65 (ns : List Int) : run T 16 kf_law_k65 [.scr ns] [] = .ok (.bl true) false [] := by
  have hr := ruleM_ok ns 10
  have hr6 := ruleM_ok ns 60
  have p0 := pk_lt ns 0 (m := 40) (by omega)
  have p2 := pk_lt ns 2 (m := 2) (by omega)
  refine run_w (n := 15) T_law_k65 rfl [.fro (.scr ns), .un, .un, .un, .un, .un, .un, .un, .un, .un, .un] rfl ?_
  unfold fd_law_k65
  walk_at "wj"
  generalize ruleM ns 10 = R at *
  generalize ruleM ns 60 = R6 at *
  obtain ⟨M, hM⟩ : ∃ M : Nat, 5 + pk ns 0 40 = (M : Int) := ⟨(5 + pk ns 0 40).toNat, by omega⟩
  rw [hM]
  have hm : 5 ≤ M ∧ M ≤ 44 := by omega
  clear hM p0
  refine HO_cut (fun s => ∃ R2 : Ru, R2.Ok ∧ s = ⟨[.fro (.scr ns), .fro R.enc, .fro (.int M), .fro R2.enc, .un, .un, .un, .un, .un, .un, .un], []⟩) ?_ ?_
  · rw [x_ite]
    walk_at "wp"
    obtain ⟨f1, f2, f3, f4, f5⟩ := hr.all
    refine ⟨fun _ => ?_, fun _ => ⟨R6, hr6, rfl⟩⟩
    have gl : R.first.getLast? = some (R.first.getD (R.first.length - 1) 0) := by
      rw [List.getLast?_eq_getElem?, List.getD, List.getElem?_eq_getElem (by omega)]
      rfl
    walk_at "wp"
    rw [at_last gl]
    walk_at "wp"
    rw [cut_init, List.length_map, ← List.map_take]
    refine ⟨by rw [List.length_map, List.length_take]; omega, ⟨R.first.take (R.first.length - 1) ++ [(R.first.getD (R.first.length - 1) 0 + pk ns 2 2) % 10], R.more, R.terms⟩, ru_ok ?_ ?_ f3 f4 f5, ?_⟩
    · simp only [List.length_append, List.length_take, List.length_singleton]
      omega
    · intro i hi
      rcases List.mem_append.mp hi with hi | hi
      · exact f2 i (List.mem_of_mem_take hi)
      · rw [List.mem_singleton] at hi
        omega
    · simp [Ru.enc]
  · rintro s ⟨R2, hr2, rfl⟩
    have num1 := run_numbers (n := 15) (w := []) hr (many := M) (by omega) (by omega) (by omega)
    have num2 := run_numbers (n := 15) (w := []) hr2 (many := M) (by omega) (by omega) (by omega)
    have numN := run_numbers (n := 15) (w := []) hr (many := (M : Int) + 1) (by omega) (by omega) (by omega)
    have endN := run_end_of (q := 15) (w := []) hr (m := (M : Int) + 1) (by omega) (by omega) (by omega)
    have tot1 := run_totals (q := 15) (w := []) hr (many := M) (by omega) (by omega) (by omega)
    have tot2 := run_totals (q := 15) (w := []) hr2 (many := M) (by omega) (by omega) (by omega)
    have par12 := run_parting (q := 15) (w := []) hr hr2 (m := M) (by omega) (by omega) (by omega)
    have par21 := run_parting (q := 15) (w := []) hr2 hr (m := M) (by omega) (by omega) (by omega)
    have par11 := run_parting (q := 15) (w := []) hr hr (m := M) (by omega) (by omega) (by omega)
    have alk12 := run_alike_from (q := 15) (w := []) hr hr2 (m := M) (by omega) (by omega) (by omega)
    have alk21 := run_alike_from (q := 15) (w := []) hr2 hr (m := M) (by omega) (by omega) (by omega)
    have alk11 := run_alike_from (q := 15) (w := []) hr hr (m := M) (by omega) (by omega) (by omega)
    have shf := run_shifted (q := 15) (w := []) (b := 1) hr hr (m := M) (by omega) (by omega) (by omega) (by omega)
    rw [show ((1 : Nat) : Int) = 1 from rfl] at shf
    have tk := row_take R (show M ≤ M + 1 by omega)
    have la := row_len R M
    have lb := row_len R2 M
    have lc := row_len R (M + 1)
    have pa := row_pos R (m := M) (by omega) hr.all.1.1
    rw [Int.toNat_natCast] at num1 num2 tot1 tot2 par12 par21 par11
    rw [show ((M : Int) + 1).toNat = M + 1 by omega] at numN endN
    rw [partM_swap] at par21
    rw [alikeM_swap] at alk21
    rw [partM_none.mpr rfl] at par11
    generalize R.row (M + 1) = c at *
    generalize R.row M = a at *
    generalize R2.row M = b at *
    walk_at "wp"
    rw [num1]
    walk_at "wp"
    rw [num2]
    walk_at "wp"
    refine x_forT (rangeI 1 ((M : Int) + 1)).reverse .int (fun s0 i s => ∃ c7, s = (s0.set 6 (.fro (encO (partF a b i (M - i))))).set 7 c7) ?_
    walk_at "wi"
    rw [List.map_reverse]
    refine ⟨rfl, ⟨.un, rfl⟩, ?_, ?_⟩
    · rintro i x s hx ⟨c7, rfl⟩
      obtain ⟨rfl, hi⟩ := get_revI hx
      have ep : partF a b (i + 1) (M - (i + 1)) = if a[((M : Int) - i - 1).toNat]? = b[((M : Int) - i - 1).toNat]? then partF a b i (M - i) else some ((M : Int) - i) := by
        simp only [partF]
        rw [show M - (i + 1) + 1 = M - i by omega, show ((M : Int) - i - 1).toNat = M - (i + 1) by omega, show ((M - (i + 1) : Nat) : Int) + 1 = (M : Int) - i by omega]
      walk_at "wp"
      refine ⟨fun h => ?_, fun h => ?_⟩
      · rw [if_pos h] at ep
        exact ⟨.fro (.int ((M : Int) - i)), by rw [ep]⟩
      · rw [if_neg h] at ep
        exact ⟨.fro (.int ((M : Int) - i)), by rw [ep]; rfl⟩
    · rintro s ⟨c7, rfl⟩
      rw [List.length_reverse, len_rangeI, show ((M : Int) + 1 - 1).toNat = M by omega, Nat.sub_self, partF_more (by omega)]
      have pn := partM_none (a := a) (b := b)
      have ps := fun d => partM_some (a := a) (b := b) (d := d)
      walk_at "wi"
      refine HO_same ?_ ?_
      · rw [x_ite]
        walk_at "wp"
        rw [par12]
        walk_at "wp"
        rw [par21]
        walk_at "wp"
      walk_at "wi"
      refine HO_same ?_ ?_
      · rw [x_ite]
        walk_at "wp"
        cases q : partM a b with
        | none => walk_at "wp"
        | some d =>
          obtain ⟨d1, d2, d3⟩ := ps d q
          walk_at "wp"
          rw [tot1]
          walk_at "wp"
          rw [tot2]
          walk_at "wp"
          rw [cut_takeI (by omega), cut_takeI (by omega), ← List.map_take, ← List.map_take, totM_cut, totM_cut, d3]
          walk_at "wp"
      walk_at "wi"
      rw [alk12]
      walk_at "wi"
      have as := fun p => alikeM_some (a := a) (b := b) (m := M) (p := p) (by omega) (by omega) (by omega)
      refine HO_same ?_ ?_
      · rw [x_ite]
        walk_at "wp"
        rw [alk21]
        walk_at "wp"
        cases q : partM a b with
        | some d => walk_at "wp"
        | none =>
          have e := pn.mp q
          walk_at "wp"
          refine fun h => ?_
          · have e1 : alikeM a b M = some 1 := by
              unfold alikeM
              rw [← e, if_neg, backF_self]
              rintro (z | z | z)
              · omega
              · omega
              · exact z rfl
            rw [e1]
            walk_at "wp"
      walk_at "wi"
      refine HO_same ?_ ?_
      · rw [x_ite]
        walk_at "wp"
        cases q : alikeM a b M with
        | none => walk_at "wp"
        | some p =>
          obtain ⟨p1, p2, p3, p4, p5, p6⟩ := as p q
          walk_at "wp"
          rw [cut_dropI (by omega), cut_dropI (by omega), ← List.map_drop, ← List.map_drop, p5]
          walk_at "wp"
      walk_at "wi"
      refine HO_same ?_ ?_
      · rw [x_ite]
        walk_at "wp"
        cases q : alikeM a b M with
        | none => walk_at "wp"
        | some p =>
          obtain ⟨p1, p2, p3, p4, p5, p6⟩ := as p q
          walk_at "wp"
          refine fun h => ?_
          have p7 := p6 h
          rw [List.getElem?_eq_getElem (by omega), List.getElem?_eq_getElem (by omega)] at p7
          walk_at "wp"
          simpa [List.getD, List.getElem?_eq_getElem (show (p - 2).toNat < a.length by omega), List.getElem?_eq_getElem (show (p - 2).toNat < b.length by omega)] using p7
      walk_at "wi"
      rw [numN]
      walk_at "wi"
      have oo := fun h => once_one (c := c) (m := M) h
      rw [← tk] at oo
      refine ⟨fun h => ⟨by omega, fun h2 => ?_, fun h2 => ?_⟩, fun h => ?_⟩
      · have e := (oo (by omega)).mp (by omega)
        have al : a.length = M := by rw [tk, List.length_take]; omega
        rw [decide_eq_true ⟨al, by omega, e⟩] at shf
        rw [endN, if_neg (by omega)]
        walk_at "wp"
        rw [par11]
        walk_at "wp"
        rw [shf]
        walk_at "wp"
        rw [alk11]
        walk_at "wp"
        rw [alikeM_self a M la]
        refine ⟨fun h => ?_, fun h => ?_⟩
        · rw [if_pos (by omega)]
          walk_at "wp"
        · rw [if_neg (by omega)]
          walk_at "wp"
      · have e : ¬ a = c.drop 1 := fun z => h2 (by have := (oo (by omega)).mpr z; omega)
        rw [decide_eq_false fun z => e z.2.2] at shf
        walk_at "wp"
        rw [par11]
        walk_at "wp"
        rw [shf]
        walk_at "wp"
        rw [alk11]
        walk_at "wp"
        rw [alikeM_self a M la]
        refine ⟨fun h => ?_, fun h => ?_⟩
        · rw [if_pos (by omega)]
          walk_at "wp"
        · rw [if_neg (by omega)]
          walk_at "wp"
      · rw [decide_eq_false fun z => h (by omega)] at shf
        walk_at "wp"
        rw [par11]
        walk_at "wp"
        rw [shf]
        walk_at "wp"
        rw [alk11]
        walk_at "wp"
        rw [alikeM_self a M la]
        refine ⟨fun h => ?_, fun h => ?_⟩
        · rw [if_pos (by omega)]
          walk_at "wp"
        · rw [if_neg (by omega)]
          walk_at "wp"
end DL

theorem DL.run_law (ns : List Int) (hl : ns.length ≤ 63) : DL.run DL.T 16 DL.kf_law_k65 [.scr ns] [] = .ok (.bl true) false [] := DL.run65 ns
namespace DLEnd
open PySem L2 DL
abbrev top (i : Nat) : Stmt := PySem.Challenge.pw_backrows_k65_whole_parting_held.main.body.getD i (.Pass ⟨0, 0, 0, 0⟩)
abbrev s_p_is_whole : Stmt := top 11
abbrev s_p_is_term_in : Stmt := top 12
abbrev s_p_is_term : Stmt := top 13
abbrev s_p_is_rule : Stmt := top 14
abbrev s_p_look_rule : Stmt := top 15
abbrev s_p_look_many : Stmt := top 16
abbrev s_p_place_of : Stmt := top 18
abbrev s_p_number_of : Stmt := top 19
abbrev s_p_next_number : Stmt := top 20
abbrev s_p_row_of : Stmt := top 21
abbrev s_p_numbers : Stmt := top 22
abbrev s_p_end_of : Stmt := top 23
abbrev s_p_parting : Stmt := top 25
abbrev s_p_alike_from : Stmt := top 26
abbrev s_p_shifted_alike : Stmt := top 27
abbrev s_p_totals : Stmt := top 29
abbrev s_l_cell : Stmt := top 31
abbrev s_l_pick : Stmt := top 32
abbrev s_l_term : Stmt := top 33
abbrev s_l_rule_bd0c : Stmt := top 34
abbrev s_law_k65 : Stmt := top 37
def ds : Defs := [(kf_p_is_whole, s_p_is_whole), (kf_p_is_term_in, s_p_is_term_in), (kf_p_is_term, s_p_is_term), (kf_p_is_rule, s_p_is_rule), (kf_p_look_rule, s_p_look_rule), (kf_p_look_many, s_p_look_many), (kf_p_place_of, s_p_place_of), (kf_p_number_of, s_p_number_of), (kf_p_next_number, s_p_next_number), (kf_p_row_of, s_p_row_of), (kf_p_numbers, s_p_numbers), (kf_p_end_of, s_p_end_of), (kf_p_parting, s_p_parting), (kf_p_alike_from, s_p_alike_from), (kf_p_shifted_alike, s_p_shifted_alike), (kf_p_totals, s_p_totals), (kf_l_cell, s_l_cell), (kf_l_pick, s_l_pick), (kf_l_term, s_l_term), (kf_l_rule_bd0c, s_l_rule_bd0c), (kf_law_k65, s_law_k65)]
def gi : List (Str × Int) := [("DEEPEST", 3), ("FARTHEST", 5), ("GREATEST", 9), ("LONGEST", 200), ("MOST_FIRST", 6), ("MOST_TERMS", 3)]
def exs : List (Nat × Str) := [(0, "NoRule"), (1, "NoNumber")]
def fns : List (Nat × Str × Nat) := [(kf_p_is_whole, "is_whole", 3), (kf_p_is_term_in, "is_term_in", 2), (kf_p_is_term, "is_term", 1), (kf_p_is_rule, "is_rule", 1), (kf_p_look_rule, "look_rule", 1), (kf_p_look_many, "look_many", 1), (kf_p_place_of, "place_of", 2), (kf_p_number_of, "number_of", 2), (kf_p_next_number, "next_number", 2), (kf_p_row_of, "row_of", 2), (kf_p_numbers, "numbers", 2), (kf_p_end_of, "end_of", 2), (kf_p_parting, "parting", 3), (kf_p_alike_from, "alike_from", 3), (kf_p_shifted_alike, "shifted_alike", 4), (kf_p_totals, "totals", 2), (kf_l_cell, "_law_cell", 2), (kf_l_pick, "_law_pick", 3), (kf_l_term, "_law_term", 3), (kf_l_rule_bd0c, "_law_rule", 2), (kf_law_k65, "law", 1)]
theorem fns_eq : fnsOf T ds = fns := rfl
theorem t_p_is_whole : DefTxt T fns exs gi kf_p_is_whole "is_whole" s_p_is_whole := ⟨fd_p_is_whole, T_p_is_whole, rfl, by decide +kernel, fun _ _ _ _ _ _ us hl => match us, hl with | [_, _, _], _ => rfl⟩
theorem t_p_is_term_in : DefTxt T fns exs gi kf_p_is_term_in "is_term_in" s_p_is_term_in := ⟨fd_p_is_term_in, T_p_is_term_in, rfl, by decide +kernel, fun _ _ _ _ _ _ us hl => match us, hl with | [_, _], _ => rfl⟩
theorem t_p_is_term : DefTxt T fns exs gi kf_p_is_term "is_term" s_p_is_term := ⟨fd_p_is_term, T_p_is_term, rfl, by decide +kernel, fun _ _ _ _ _ _ us hl => match us, hl with | [_], _ => rfl⟩
theorem t_p_is_rule : DefTxt T fns exs gi kf_p_is_rule "is_rule" s_p_is_rule := ⟨fd_p_is_rule, T_p_is_rule, rfl, by decide +kernel, fun _ _ _ _ _ _ us hl => match us, hl with | [_], _ => rfl⟩
theorem t_p_look_rule : DefTxt T fns exs gi kf_p_look_rule "look_rule" s_p_look_rule := ⟨fd_p_look_rule, T_p_look_rule, rfl, by decide +kernel, fun _ _ _ _ _ _ us hl => match us, hl with | [_], _ => rfl⟩
theorem t_p_look_many : DefTxt T fns exs gi kf_p_look_many "look_many" s_p_look_many := ⟨fd_p_look_many, T_p_look_many, rfl, by decide +kernel, fun _ _ _ _ _ _ us hl => match us, hl with | [_], _ => rfl⟩
theorem t_p_place_of : DefTxt T fns exs gi kf_p_place_of "place_of" s_p_place_of := ⟨fd_p_place_of, T_p_place_of, rfl, by decide +kernel, fun _ _ _ _ _ _ us hl => match us, hl with | [_, _], _ => rfl⟩
theorem t_p_number_of : DefTxt T fns exs gi kf_p_number_of "number_of" s_p_number_of := ⟨fd_p_number_of, T_p_number_of, rfl, by decide +kernel, fun _ _ _ _ _ _ us hl => match us, hl with | [_, _], _ => rfl⟩
theorem t_p_next_number : DefTxt T fns exs gi kf_p_next_number "next_number" s_p_next_number := ⟨fd_p_next_number, T_p_next_number, rfl, by decide +kernel, fun _ _ _ _ _ _ us hl => match us, hl with | [_, _], _ => rfl⟩
theorem t_p_row_of : DefTxt T fns exs gi kf_p_row_of "row_of" s_p_row_of := ⟨fd_p_row_of, T_p_row_of, rfl, by decide +kernel, fun _ _ _ _ _ _ us hl => match us, hl with | [_, _], _ => rfl⟩
theorem t_p_numbers : DefTxt T fns exs gi kf_p_numbers "numbers" s_p_numbers := ⟨fd_p_numbers, T_p_numbers, rfl, by decide +kernel, fun _ _ _ _ _ _ us hl => match us, hl with | [_, _], _ => rfl⟩
theorem t_p_end_of : DefTxt T fns exs gi kf_p_end_of "end_of" s_p_end_of := ⟨fd_p_end_of, T_p_end_of, rfl, by decide +kernel, fun _ _ _ _ _ _ us hl => match us, hl with | [_, _], _ => rfl⟩
theorem t_p_parting : DefTxt T fns exs gi kf_p_parting "parting" s_p_parting := ⟨fd_p_parting, T_p_parting, rfl, by decide +kernel, fun _ _ _ _ _ _ us hl => match us, hl with | [_, _, _], _ => rfl⟩
theorem t_p_alike_from : DefTxt T fns exs gi kf_p_alike_from "alike_from" s_p_alike_from := ⟨fd_p_alike_from, T_p_alike_from, rfl, by decide +kernel, fun _ _ _ _ _ _ us hl => match us, hl with | [_, _, _], _ => rfl⟩
theorem t_p_shifted_alike : DefTxt T fns exs gi kf_p_shifted_alike "shifted_alike" s_p_shifted_alike := ⟨fd_p_shifted_alike, T_p_shifted_alike, rfl, by decide +kernel, fun _ _ _ _ _ _ us hl => match us, hl with | [_, _, _, _], _ => rfl⟩
theorem t_p_totals : DefTxt T fns exs gi kf_p_totals "totals" s_p_totals := ⟨fd_p_totals, T_p_totals, rfl, by decide +kernel, fun _ _ _ _ _ _ us hl => match us, hl with | [_, _], _ => rfl⟩
theorem t_l_cell : DefTxt T fns exs gi kf_l_cell "_law_cell" s_l_cell := ⟨fd_l_cell, T_l_cell, rfl, by decide +kernel, fun _ _ _ _ _ _ us hl => match us, hl with | [_, _], _ => rfl⟩
theorem t_l_pick : DefTxt T fns exs gi kf_l_pick "_law_pick" s_l_pick := ⟨fd_l_pick, T_l_pick, rfl, by decide +kernel, fun _ _ _ _ _ _ us hl => match us, hl with | [_, _, _], _ => rfl⟩
theorem t_l_term : DefTxt T fns exs gi kf_l_term "_law_term" s_l_term := ⟨fd_l_term, T_l_term, rfl, by decide +kernel, fun _ _ _ _ _ _ us hl => match us, hl with | [_, _, _], _ => rfl⟩
theorem t_l_rule_bd0c : DefTxt T fns exs gi kf_l_rule_bd0c "_law_rule" s_l_rule_bd0c := ⟨fd_l_rule_bd0c, T_l_rule_bd0c, rfl, by decide +kernel, fun _ _ _ _ _ _ us hl => match us, hl with | [_, _], _ => rfl⟩
theorem t_law_k65 : DefTxt T fns exs gi kf_law_k65 "law" s_law_k65 := ⟨fd_law_k65, T_law_k65, rfl, by decide +kernel, fun _ _ _ _ _ _ us hl => match us, hl with | [_], _ => rfl⟩
theorem pf {K : PySem.W.Frag} {mg : Str → Option Value} {h : Heap} {C0 C1 : Addr} {g0t g1t g2t g3t g4t g5t : PySem.Tok} (X : K.In h) (G : h.Ns mainGlobals mg)
    (zd0 : DefIn K "is_whole" s_p_is_whole)
    (zd1 : DefIn K "is_term_in" s_p_is_term_in)
    (zd2 : DefIn K "is_term" s_p_is_term)
    (zd3 : DefIn K "is_rule" s_p_is_rule)
    (zd4 : DefIn K "look_rule" s_p_look_rule)
    (zd5 : DefIn K "look_many" s_p_look_many)
    (zd6 : DefIn K "place_of" s_p_place_of)
    (zd7 : DefIn K "number_of" s_p_number_of)
    (zd8 : DefIn K "next_number" s_p_next_number)
    (zd9 : DefIn K "row_of" s_p_row_of)
    (zd10 : DefIn K "numbers" s_p_numbers)
    (zd11 : DefIn K "end_of" s_p_end_of)
    (zd12 : DefIn K "parting" s_p_parting)
    (zd13 : DefIn K "alike_from" s_p_alike_from)
    (zd14 : DefIn K "shifted_alike" s_p_shifted_alike)
    (zd15 : DefIn K "totals" s_p_totals)
    (zd16 : DefIn K "_law_cell" s_l_cell)
    (zd17 : DefIn K "_law_pick" s_l_pick)
    (zd18 : DefIn K "_law_term" s_l_term)
    (zd19 : DefIn K "_law_rule" s_l_rule_bd0c)
    (zd20 : DefIn K "law" s_law_k65)
    (zg0 : PySem.W.nsIn K mainGlobals "DEEPEST" = some (some (.int 3 g0t)))
    (zg1 : PySem.W.nsIn K mainGlobals "FARTHEST" = some (some (.int 5 g1t)))
    (zg2 : PySem.W.nsIn K mainGlobals "GREATEST" = some (some (.int 9 g2t)))
    (zg3 : PySem.W.nsIn K mainGlobals "LONGEST" = some (some (.int 200 g3t)))
    (zg4 : PySem.W.nsIn K mainGlobals "MOST_FIRST" = some (some (.int 6 g4t)))
    (zg5 : PySem.W.nsIn K mainGlobals "MOST_TERMS" = some (some (.int 3 g5t)))
    (zb0 : PySem.W.nsIn K mainGlobals "len" = some none)
    (zb1 : PySem.W.nsIn K mainGlobals "list" = some none)
    (zb2 : PySem.W.nsIn K mainGlobals "tuple" = some none)
    (zb3 : PySem.W.nsIn K mainGlobals "sum" = some none)
    (zb4 : PySem.W.nsIn K mainGlobals "all" = some none)
    (zb5 : PySem.W.nsIn K mainGlobals "max" = some none)
    (zb6 : PySem.W.nsIn K mainGlobals "min" = some none)
    (zb7 : PySem.W.nsIn K mainGlobals "abs" = some none)
    (zb8 : PySem.W.nsIn K mainGlobals "int" = some none)
    (zb9 : PySem.W.nsIn K mainGlobals "str" = some none)
    (zb10 : PySem.W.nsIn K mainGlobals "sorted" = some none)
    (zb11 : PySem.W.nsIn K mainGlobals "isinstance" = some none)
    (zb12 : PySem.W.nsIn K mainGlobals "range" = some none)
    (zb13 : PySem.W.nsIn K mainGlobals "enumerate" = some none)
    (zb14 : PySem.W.nsIn K mainGlobals "zip" = some none)
    (zb15 : PySem.W.nsIn K mainGlobals "bool" = some none)
    (zb16 : PySem.W.nsIn K mainGlobals "set" = some none)
    (zea0 : PySem.W.nsIn K mainGlobals "NoRule" = some (some (.ref C0))) (zee0 : PySem.W.excIn K C0 [.type "ValueError", .type "Exception", .type "BaseException", .type "object"] "ValueError.__new__" = true)
    (zek0 : PySem.W.keepIn K (.ref C0) = true) (zes0 : PySem.W.subIn K (.ref C0) (.type "BaseException") = some true) (zet0 : PySem.W.typeIn K (.ref C0) = some (.type "type"))
    (zea1 : PySem.W.nsIn K mainGlobals "NoNumber" = some (some (.ref C1))) (zee1 : PySem.W.excIn K C1 [.type "ValueError", .type "Exception", .type "BaseException", .type "object"] "ValueError.__new__" = true)
    (zek1 : PySem.W.keepIn K (.ref C1) = true) (zes1 : PySem.W.subIn K (.ref C1) (.type "BaseException") = some true) (zet1 : PySem.W.typeIn K (.ref C1) = some (.type "type"))
    : ∃ ca, PFacts T ds exs gi ca K mg := ⟨fun k => match k with | 0 => C0 | 1 => C1 | _ => 0, pfacts X G fns_eq
  ⟨defOk X G t_p_is_whole zd0, defOk X G t_p_is_term_in zd1, defOk X G t_p_is_term zd2, defOk X G t_p_is_rule zd3, defOk X G t_p_look_rule zd4, defOk X G t_p_look_many zd5, defOk X G t_p_place_of zd6, defOk X G t_p_number_of zd7, defOk X G t_p_next_number zd8, defOk X G t_p_row_of zd9, defOk X G t_p_numbers zd10, defOk X G t_p_end_of zd11, defOk X G t_p_parting zd12, defOk X G t_p_alike_from zd13, defOk X G t_p_shifted_alike zd14, defOk X G t_p_totals zd15, defOk X G t_l_cell zd16, defOk X G t_l_pick zd17, defOk X G t_l_term zd18, defOk X G t_l_rule_bd0c zd19, defOk X G t_law_k65 zd20, trivial⟩
  ⟨⟨_, zg0⟩, ⟨_, zg1⟩, ⟨_, zg2⟩, ⟨_, zg3⟩, ⟨_, zg4⟩, ⟨_, zg5⟩, trivial⟩
  ⟨zb0, zb1, zb2, zb3, zb4, zb5, zb6, zb7, zb8, zb9, zb10, zb11, zb12, zb13, zb14, zb15, zb16, trivial⟩
  ⟨⟨zea0, zee0, zek0, zes0, zet0⟩, ⟨zea1, zee1, zek1, zes1, zet1⟩, trivial⟩⟩
end DLEnd
open PySem PySem.W PyProof.Rows in
set_option maxRecDepth 100000 in
set_option maxHeartbeats 0 in
theorem PySem.Challenge.cw_backrows_k65_whole_parting_held_holds : PySem.Challenge.rw_backrows_k65_whole_parting_held.Holds := by
  w_on; o_law; k_head; (case hw => w_witness2)
  k_fill
  refine DL.the_end (n := 16) (l := PySem.Challenge.rw_backrows_k65_whole_parting_held) DL.T_law_k65 (stL := DLEnd.s_law_k65) (ds := DLEnd.ds) (exs := DLEnd.exs) (gi := DLEnd.gi) ?hm rfl rfl rfl ⟨rfl, by decide, by decide⟩ rfl rfl (fun w h Y => PySem.W.kIn_of Y) (fun ns hl => DL.run_law ns hl) ?F
  case hm => exact List.mem_of_getElem? (i := 20) rfl
  case F =>
    intro w mg h KX G
    refine' DLEnd.pf KX G ?zd0 ?zd1 ?zd2 ?zd3 ?zd4 ?zd5 ?zd6 ?zd7 ?zd8 ?zd9 ?zd10 ?zd11 ?zd12 ?zd13 ?zd14 ?zd15 ?zd16 ?zd17 ?zd18 ?zd19 ?zd20 ?zg0 ?zg1 ?zg2 ?zg3 ?zg4 ?zg5 ?zb0 ?zb1 ?zb2 ?zb3 ?zb4 ?zb5 ?zb6 ?zb7 ?zb8 ?zb9 ?zb10 ?zb11 ?zb12 ?zb13 ?zb14 ?zb15 ?zb16 ?zea0 ?zee0 ?zek0 ?zes0 ?zet0 ?zea1 ?zee1 ?zek1 ?zes1 ?zet1
    (case zd0 => refine' DL.defIn ?ya ?yl ?yc ?yk; (case ya => k_is); (case yl => k_is); (case yc => k_is); (case yk => k_is))
    (case zd1 => refine' DL.defIn ?ya ?yl ?yc ?yk; (case ya => k_is); (case yl => k_is); (case yc => k_is); (case yk => k_is))
    (case zd2 => refine' DL.defIn ?ya ?yl ?yc ?yk; (case ya => k_is); (case yl => k_is); (case yc => k_is); (case yk => k_is))
    (case zd3 => refine' DL.defIn ?ya ?yl ?yc ?yk; (case ya => k_is); (case yl => k_is); (case yc => k_is); (case yk => k_is))
    (case zd4 => refine' DL.defIn ?ya ?yl ?yc ?yk; (case ya => k_is); (case yl => k_is); (case yc => k_is); (case yk => k_is))
    (case zd5 => refine' DL.defIn ?ya ?yl ?yc ?yk; (case ya => k_is); (case yl => k_is); (case yc => k_is); (case yk => k_is))
    (case zd6 => refine' DL.defIn ?ya ?yl ?yc ?yk; (case ya => k_is); (case yl => k_is); (case yc => k_is); (case yk => k_is))
    (case zd7 => refine' DL.defIn ?ya ?yl ?yc ?yk; (case ya => k_is); (case yl => k_is); (case yc => k_is); (case yk => k_is))
    (case zd8 => refine' DL.defIn ?ya ?yl ?yc ?yk; (case ya => k_is); (case yl => k_is); (case yc => k_is); (case yk => k_is))
    (case zd9 => refine' DL.defIn ?ya ?yl ?yc ?yk; (case ya => k_is); (case yl => k_is); (case yc => k_is); (case yk => k_is))
    (case zd10 => refine' DL.defIn ?ya ?yl ?yc ?yk; (case ya => k_is); (case yl => k_is); (case yc => k_is); (case yk => k_is))
    (case zd11 => refine' DL.defIn ?ya ?yl ?yc ?yk; (case ya => k_is); (case yl => k_is); (case yc => k_is); (case yk => k_is))
    (case zd12 => refine' DL.defIn ?ya ?yl ?yc ?yk; (case ya => k_is); (case yl => k_is); (case yc => k_is); (case yk => k_is))
    (case zd13 => refine' DL.defIn ?ya ?yl ?yc ?yk; (case ya => k_is); (case yl => k_is); (case yc => k_is); (case yk => k_is))
    (case zd14 => refine' DL.defIn ?ya ?yl ?yc ?yk; (case ya => k_is); (case yl => k_is); (case yc => k_is); (case yk => k_is))
    (case zd15 => refine' DL.defIn ?ya ?yl ?yc ?yk; (case ya => k_is); (case yl => k_is); (case yc => k_is); (case yk => k_is))
    (case zd16 => refine' DL.defIn ?ya ?yl ?yc ?yk; (case ya => k_is); (case yl => k_is); (case yc => k_is); (case yk => k_is))
    (case zd17 => refine' DL.defIn ?ya ?yl ?yc ?yk; (case ya => k_is); (case yl => k_is); (case yc => k_is); (case yk => k_is))
    (case zd18 => refine' DL.defIn ?ya ?yl ?yc ?yk; (case ya => k_is); (case yl => k_is); (case yc => k_is); (case yk => k_is))
    (case zd19 => refine' DL.defIn ?ya ?yl ?yc ?yk; (case ya => k_is); (case yl => k_is); (case yc => k_is); (case yk => k_is))
    (case zd20 => refine' DL.defIn ?ya ?yl ?yc ?yk; (case ya => k_is); (case yl => k_is); (case yc => k_is); (case yk => k_is))
    (case zg0 => k_is)
    (case zg1 => k_is)
    (case zg2 => k_is)
    (case zg3 => k_is)
    (case zg4 => k_is)
    (case zg5 => k_is)
    (case zb0 => k_is)
    (case zb1 => k_is)
    (case zb2 => k_is)
    (case zb3 => k_is)
    (case zb4 => k_is)
    (case zb5 => k_is)
    (case zb6 => k_is)
    (case zb7 => k_is)
    (case zb8 => k_is)
    (case zb9 => k_is)
    (case zb10 => k_is)
    (case zb11 => k_is)
    (case zb12 => k_is)
    (case zb13 => k_is)
    (case zb14 => k_is)
    (case zb15 => k_is)
    (case zb16 => k_is)
    (case zea0 => k_is); (case zee0 => k_exc); (case zek0 => k_is); (case zes0 => k_is); (case zet0 => k_is)
    (case zea1 => k_is); (case zee1 => k_exc); (case zek1 => k_is); (case zes1 => k_is); (case zet1 => k_is)
#print axioms PySem.Challenge.cw_backrows_k65_whole_parting_held_holds

