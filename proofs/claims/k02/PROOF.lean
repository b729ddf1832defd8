import PyProof.Rows.All
import Wide.All
import OpenK.AllK
import Wide.FinOn
import HandS.ForMost
import HandS.Style
import HandS.Conv
import HandS.Zip
import HandS.TupAny
import HandS.Deep
import HandS.RevTup
import HandS.More
import HandS.IsInst
import HandS.TupLen
import HandS.Sort
import KE.SortData
import KE.KDictSum
import HandS.TupSets
import HandS.DictTup
import KE.DataMinMax
import KE.KDictDisplayH
import PySem.Challenge.RW_foxholes_k02_whole_the_fewest_days
set_option Elab.async false
set_option linter.all false
set_option maxRecDepth 100000
/-! FxA: a functional layer over the hand layer: data D, what stands for it in a heap, environments, judgements -/
namespace FX
open PySem PySem.Spec PyProof.Rows L2

/-- plain data -/
inductive D where
  | non | bl (b : Bool) | int (i : Int) | str (x : Str)
  | tup (ds : List D) | lst (ds : List D)
  | dI (kvs : List (Int × D)) | dT (kvs : List (List Int × D))
  | scr (ns : List Int)
  | obj (n : Str) (fs : List D)

abbrev AS := Addr → Prop
/-- the keys of a dict with int keys, with tuple keys -/
def kI (n : Int) : Key := Sum.inl n
def kT (ns : List Int) : List Key := ns.map Sum.inl
/-- a list object of the written part -/
def KL (K : PySem.W.Frag) (a : Addr) (xs : List V) : Prop :=
  ∃ (o : Obj) (its : Array Value) (n : Nat), K.lookup a = some o ∧ o.cls = .type "list" ∧ o.dict = none ∧ o.data = .seq its n ∧ its.size ≤ sizeLine ∧ Vals xs its.toList

mutual
/-- v stands for d in H, and leans on no address of Av -/
def Rep (K : PySem.W.Frag) (Av : AS) (H : Hp) : D → V → Prop
  | .non, v => v = .non
  | .bl b, v => v = .bl b
  | .int i, v => v = .int i
  | .str x, v => v = .str x
  | .tup ds, v => ∃ a vs, v = .ref a ∧ ¬ Av a ∧ H a = some (.tup vs) ∧ Reps K Av H ds vs
  | .lst ds, v => ∃ a vs, v = .ref a ∧ ¬ Av a ∧ H a = some (.lst vs) ∧ Reps K Av H ds vs
  | .dI kvs, v => ∃ a ws, v = .ref a ∧ ¬ Av a ∧ Rd H a (.dK ws) ∧ RepI K Av H kvs ws
  | .dT kvs, v => ∃ a ws, v = .ref a ∧ ¬ Av a ∧ Rd H a (.dT ws) ∧ RepT K Av H kvs ws
  | .scr ns, v => ∃ a, v = .ref a ∧ ((¬ Av a ∧ ∃ o, H a = some (.frz o (.lst (ns.map V.int)))) ∨ KL K a (ns.map V.int))
  | .obj _ _, _ => False
def Reps (K : PySem.W.Frag) (Av : AS) (H : Hp) : List D → List V → Prop
  | [], vs => vs = []
  | d :: ds, vs => ∃ v r, vs = v :: r ∧ Rep K Av H d v ∧ Reps K Av H ds r
def RepI (K : PySem.W.Frag) (Av : AS) (H : Hp) : List (Int × D) → List (Key × V) → Prop
  | [], ws => ws = []
  | (k, d) :: ds, ws => ∃ v r, ws = (kI k, v) :: r ∧ Rep K Av H d v ∧ RepI K Av H ds r
def RepT (K : PySem.W.Frag) (Av : AS) (H : Hp) : List (List Int × D) → List (List Key × V) → Prop
  | [], ws => ws = []
  | (k, d) :: ds, ws => ∃ v r, ws = (kT k, v) :: r ∧ Rep K Av H d v ∧ RepT K Av H ds r
end

/-- the mutable thing at p holds d, v stands for it -/
def Cont (K : PySem.W.Frag) (Av : AS) (H : Hp) (p : Addr) (d : D) (v : V) : Prop :=
  match d with
  | .lst ds => v = .ref p ∧ ∃ vs, H p = some (.lst vs) ∧ Reps K Av H ds vs
  | .dI kvs => v = .ref p ∧ ∃ ws, H p = some (.dK ws) ∧ RepI K Av H kvs ws
  | .dT kvs => v = .ref p ∧ ∃ ws, H p = some (.dT ws) ∧ RepT K Av H kvs ws
  | _ => False

section
variable {K : PySem.W.Frag} {Av Bv : AS} {H H' : Hp}
mutual
theorem Rep.mono (hk : ∀ a o, H a = some o → ¬ Av a → H' a = some o) (ha : ∀ a, H a ≠ none → Bv a → Av a) : ∀ (d : D) (v : V), Rep K Av H d v → Rep K Bv H' d v
  | .non, _, h => h
  | .bl _, _, h => h
  | .int _, _, h => h
  | .str _, _, h => h
  | .tup ds, _, ⟨a, vs, e, n, h, r⟩ => ⟨a, vs, e, fun z => n (ha a (by rw [h]; simp) z), hk a _ h n, Reps.mono hk ha ds vs r⟩
  | .lst ds, _, ⟨a, vs, e, n, h, r⟩ => ⟨a, vs, e, fun z => n (ha a (by rw [h]; simp) z), hk a _ h n, Reps.mono hk ha ds vs r⟩
  | .dI ds, _, ⟨a, vs, e, n, h, r⟩ => by
    refine ⟨a, vs, e, fun z => n (ha a ?_ z), ?_, RepI.mono hk ha ds vs r⟩
    · rcases h with h | ⟨o, h⟩ <;> (rw [h]; simp)
    · rcases h with h | ⟨o, h⟩
      · exact .inl (hk a _ h n)
      · exact .inr ⟨o, hk a _ h n⟩
  | .dT ds, _, ⟨a, vs, e, n, h, r⟩ => by
    refine ⟨a, vs, e, fun z => n (ha a ?_ z), ?_, RepT.mono hk ha ds vs r⟩
    · rcases h with h | ⟨o, h⟩ <;> (rw [h]; simp)
    · rcases h with h | ⟨o, h⟩
      · exact .inl (hk a _ h n)
      · exact .inr ⟨o, hk a _ h n⟩
  | .scr _, _, ⟨a, e, h⟩ => ⟨a, e, h.elim (fun ⟨n, o, h⟩ => .inl ⟨fun z => n (ha a (by rw [h]; simp) z), o, hk a _ h n⟩) .inr⟩
  | .obj _ _, _, h => h
theorem Reps.mono (hk : ∀ a o, H a = some o → ¬ Av a → H' a = some o) (ha : ∀ a, H a ≠ none → Bv a → Av a) : ∀ (ds : List D) (vs : List V), Reps K Av H ds vs → Reps K Bv H' ds vs
  | [], _, h => h
  | d :: ds, _, ⟨v, r, e, h1, h2⟩ => ⟨v, r, e, Rep.mono hk ha d v h1, Reps.mono hk ha ds r h2⟩
theorem RepI.mono (hk : ∀ a o, H a = some o → ¬ Av a → H' a = some o) (ha : ∀ a, H a ≠ none → Bv a → Av a) : ∀ (ds : List (Int × D)) (vs : List (Key × V)), RepI K Av H ds vs → RepI K Bv H' ds vs
  | [], _, h => h
  | (_, d) :: ds, _, ⟨v, r, e, h1, h2⟩ => ⟨v, r, e, Rep.mono hk ha d v h1, RepI.mono hk ha ds r h2⟩
theorem RepT.mono (hk : ∀ a o, H a = some o → ¬ Av a → H' a = some o) (ha : ∀ a, H a ≠ none → Bv a → Av a) : ∀ (ds : List (List Int × D)) (vs : List (List Key × V)), RepT K Av H ds vs → RepT K Bv H' ds vs
  | [], _, h => h
  | (_, d) :: ds, _, ⟨v, r, e, h1, h2⟩ => ⟨v, r, e, Rep.mono hk ha d v h1, RepT.mono hk ha ds r h2⟩
end

theorem Reps.length : ∀ {ds : List D} {vs : List V}, Reps K Av H ds vs → vs.length = ds.length
  | [], _, h => by cases h; rfl
  | _ :: ds, _, ⟨_, _, e, _, h⟩ => by rw [e, List.length_cons, Reps.length h, List.length_cons]
theorem Reps.get : ∀ {ds : List D} {vs : List V} {i : Nat} {d : D}, Reps K Av H ds vs → ds[i]? = some d → ∃ v, vs[i]? = some v ∧ Rep K Av H d v
  | [], _, _, _, _, e => by simp at e
  | d :: ds, _, 0, _, ⟨v, r, e, h1, h2⟩, q => by
    simp at q; subst q; subst e; exact ⟨v, rfl, h1⟩
  | d :: ds, _, i + 1, _, ⟨v, r, e, h1, h2⟩, q => by
    subst e
    obtain ⟨v', e', h'⟩ := Reps.get (i := i) h2 (by simpa using q)
    exact ⟨v', by simpa using e', h'⟩
theorem Reps.getV : ∀ {ds : List D} {vs : List V} {i : Nat} {v : V}, Reps K Av H ds vs → vs[i]? = some v → ∃ d, ds[i]? = some d ∧ Rep K Av H d v := fun {ds vs i v} h e => by
  have hl : i < ds.length := by
    rw [← h.length]
    exact (List.getElem?_eq_some_iff.mp e).1
  obtain ⟨v', e', r⟩ := h.get (List.getElem?_eq_getElem hl)
  rw [e] at e'; cases e'
  exact ⟨_, List.getElem?_eq_getElem hl, r⟩
theorem Reps.append : ∀ {ds es : List D} {vs ws : List V}, Reps K Av H ds vs → Reps K Av H es ws → Reps K Av H (ds ++ es) (vs ++ ws)
  | [], _, _, _, h, q => by cases h; exact q
  | d :: ds, _, _, _, ⟨v, r, e, h1, h2⟩, q => by subst e; exact ⟨v, _, rfl, h1, Reps.append h2 q⟩
theorem Reps.one {d : D} {v : V} (h : Rep K Av H d v) : Reps K Av H [d] [v] := ⟨v, [], rfl, h, rfl⟩
theorem Reps.cons {d : D} {ds : List D} {v : V} {vs : List V} (h : Rep K Av H d v) (q : Reps K Av H ds vs) : Reps K Av H (d :: ds) (v :: vs) := ⟨v, vs, rfl, h, q⟩
theorem Reps.set : ∀ {ds : List D} {vs : List V} {i : Nat} {d : D} {v : V}, Reps K Av H ds vs → Rep K Av H d v → Reps K Av H (ds.set i d) (vs.set i v)
  | [], _, _, _, _, h, _ => by cases h; rfl
  | _ :: ds, _, 0, _, _, ⟨_, r, e, h1, h2⟩, q => by subst e; exact ⟨_, r, rfl, q, h2⟩
  | _ :: ds, _, i + 1, _, _, ⟨v, r, e, h1, h2⟩, q => by subst e; exact ⟨v, _, rfl, h1, Reps.set h2 q⟩
theorem Reps.take : ∀ {ds : List D} {vs : List V} (n : Nat), Reps K Av H ds vs → Reps K Av H (ds.take n) (vs.take n)
  | [], _, n, h => by cases h; simp; rfl
  | _ :: ds, _, 0, h => rfl
  | _ :: ds, _, n + 1, ⟨v, r, e, h1, h2⟩ => by subst e; exact ⟨v, _, rfl, h1, Reps.take n h2⟩
theorem Reps.drop : ∀ {ds : List D} {vs : List V} (n : Nat), Reps K Av H ds vs → Reps K Av H (ds.drop n) (vs.drop n)
  | [], _, n, h => by cases h; simp; rfl
  | _ :: ds, _, 0, h => h
  | _ :: ds, _, n + 1, ⟨v, r, e, h1, h2⟩ => by subst e; exact Reps.drop n h2
theorem Reps.reverse : ∀ {ds : List D} {vs : List V}, Reps K Av H ds vs → Reps K Av H ds.reverse vs.reverse
  | [], _, h => by cases h; rfl
  | d :: ds, _, ⟨v, r, e, h1, h2⟩ => by
    subst e
    rw [List.reverse_cons, List.reverse_cons]
    exact Reps.append (Reps.reverse h2) (Reps.one h1)
theorem Reps.eraseIdx : ∀ {ds : List D} {vs : List V} (n : Nat), Reps K Av H ds vs → Reps K Av H (ds.eraseIdx n) (vs.eraseIdx n)
  | [], _, n, h => by cases h; simp; rfl
  | _ :: ds, _, 0, ⟨v, r, e, h1, h2⟩ => by subst e; exact h2
  | _ :: ds, _, n + 1, ⟨v, r, e, h1, h2⟩ => by subst e; exact ⟨v, _, rfl, h1, Reps.eraseIdx n h2⟩
theorem Reps.ints : ∀ {ns : List Int} {vs : List V}, Reps K Av H (ns.map D.int) vs ↔ vs = ns.map V.int
  | [], _ => Iff.rfl
  | n :: ns, vs => by
    constructor
    · rintro ⟨v, r, e, h1, h2⟩
      have h1 : v = .int n := h1
      rw [e, h1, Reps.ints.mp h2]; rfl
    · rintro rfl
      exact ⟨_, _, rfl, rfl, Reps.ints.mpr rfl⟩
theorem RepI.length : ∀ {ds : List (Int × D)} {vs : List (Key × V)}, RepI K Av H ds vs → vs.length = ds.length
  | [], _, h => by cases h; rfl
  | _ :: ds, _, ⟨_, _, e, _, h⟩ => by rw [e, List.length_cons, RepI.length h, List.length_cons]
theorem RepT.length : ∀ {ds : List (List Int × D)} {vs : List (List Key × V)}, RepT K Av H ds vs → vs.length = ds.length
  | [], _, h => by cases h; rfl
  | _ :: ds, _, ⟨_, _, e, _, h⟩ => by rw [e, List.length_cons, RepT.length h, List.length_cons]

theorem Cont.mono {p : Addr} {d : D} {v : V} (h : Cont K Av H p d v) (hp : ∀ o, H p = some o → H' p = some o) (hk : ∀ a o, H a = some o → ¬ Av a → H' a = some o) (ha : ∀ a, H a ≠ none → Bv a → Av a) : Cont K Bv H' p d v := by
  cases d with
  | lst ds => obtain ⟨e, vs, h, r⟩ := h; exact ⟨e, vs, hp _ h, Reps.mono hk ha ds vs r⟩
  | dI ds => obtain ⟨e, vs, h, r⟩ := h; exact ⟨e, vs, hp _ h, RepI.mono hk ha ds vs r⟩
  | dT ds => obtain ⟨e, vs, h, r⟩ := h; exact ⟨e, vs, hp _ h, RepT.mono hk ha ds vs r⟩
  | non | bl _ | int _ | str _ | tup _ | scr _ | obj _ _ => exact h
theorem Cont.there {p : Addr} {d : D} {v : V} (h : Cont K Av H p d v) : H p ≠ none := by
  cases d with
  | lst ds => obtain ⟨e, vs, h, r⟩ := h; rw [h]; simp
  | dI ds => obtain ⟨e, vs, h, r⟩ := h; rw [h]; simp
  | dT ds => obtain ⟨e, vs, h, r⟩ := h; rw [h]; simp
  | non | bl _ | int _ | str _ | tup _ | scr _ | obj _ _ => exact h.elim
theorem Cont.mut {p : Addr} {d : D} {v : V} (h : Cont K Av H p d v) : Mut (H p) := by
  cases d with
  | lst ds => obtain ⟨e, vs, h, r⟩ := h; rw [h]; trivial
  | dI ds => obtain ⟨e, vs, h, r⟩ := h; rw [h]; trivial
  | dT ds => obtain ⟨e, vs, h, r⟩ := h; rw [h]; trivial
  | non | bl _ | int _ | str _ | tup _ | scr _ | obj _ _ => exact h.elim
/-- a mutable thing that nobody changes any more -/
theorem Cont.freeze {p : Addr} {d : D} {v : V} (h : Cont K Av H p d v) (ha : ∀ a, H a ≠ none → Bv a → Av a) (hn : ¬ Bv p) : Rep K Bv H d v := by
  cases d with
  | lst ds => obtain ⟨e, vs, h, r⟩ := h; exact ⟨p, vs, e, hn, h, Reps.mono (fun _ _ e _ => e) ha ds vs r⟩
  | dI ds => obtain ⟨e, vs, h, r⟩ := h; exact ⟨p, vs, e, hn, .inl h, RepI.mono (fun _ _ e _ => e) ha ds vs r⟩
  | dT ds => obtain ⟨e, vs, h, r⟩ := h; exact ⟨p, vs, e, hn, .inl h, RepT.mono (fun _ _ e _ => e) ha ds vs r⟩
  | non | bl _ | int _ | str _ | tup _ | scr _ | obj _ _ => exact h.elim
theorem Cont.val {p : Addr} {d : D} {v : V} (h : Cont K Av H p d v) : v = .ref p := by
  cases d with
  | lst ds => exact h.1
  | dI ds => exact h.1
  | dT ds => exact h.1
  | non | bl _ | int _ | str _ | tup _ | scr _ | obj _ _ => exact h.elim
end

mutual
/-- nothing in it can change -/
def imm : D → Bool
  | .tup ds => imms ds
  | .lst _ => false
  | .dI _ => false
  | .dT _ => false
  | .obj _ _ => false
  | _ => true
def imms : List D → Bool
  | [] => true
  | d :: ds => imm d && imms ds
end
mutual
theorem Rep.imm {K : PySem.W.Frag} {Av Bv : AS} {H : Hp} (ha : ∀ a, Bv a → Av a ∨ Mut (H a)) : ∀ (d : D) (v : V), FX.imm d = true → Rep K Av H d v → Rep K Bv H d v
  | .non, _, _, h => h
  | .bl _, _, _, h => h
  | .int _, _, _, h => h
  | .str _, _, _, h => h
  | .tup ds, _, i, ⟨a, vs, e, n, h, r⟩ => ⟨a, vs, e, fun z => (ha a z).elim n fun z => (by rw [h] at z; exact z), h, Reps.imm ha ds vs i r⟩
  | .scr _, _, _, ⟨a, e, h⟩ => ⟨a, e, h.elim (fun ⟨n, o, h⟩ => .inl ⟨fun z => (ha a z).elim n fun z => (by rw [h] at z; exact z), o, h⟩) .inr⟩
  | .obj _ _, _, _, h => h
  | .lst _, _, i, _ => Bool.noConfusion i
  | .dI _, _, i, _ => Bool.noConfusion i
  | .dT _, _, i, _ => Bool.noConfusion i
theorem Reps.imm {K : PySem.W.Frag} {Av Bv : AS} {H : Hp} (ha : ∀ a, Bv a → Av a ∨ Mut (H a)) : ∀ (ds : List D) (vs : List V), FX.imms ds = true → Reps K Av H ds vs → Reps K Bv H ds vs
  | [], _, _, h => h
  | d :: ds, _, i, ⟨v, r, e, h1, h2⟩ => by
    have i' : FX.imm d = true ∧ FX.imms ds = true := by
      have i : (FX.imm d && FX.imms ds) = true := i
      simpa using i
    exact ⟨v, r, e, Rep.imm ha d v i'.1 h1, Reps.imm ha ds r i'.2 h2⟩
end
/-! ### environments -/
/-- a slot: nothing known; plain data; a mutable thing of this def's own; a mutable thing handed in -/
inductive Sl where
  | no | frz (d : D) | own (d : D) | par (d : D)
abbrev Env := List Sl
def Sl.mine : Sl → Bool
  | .own _ => true
  | .par _ => true
  | _ => false
/-- what stays through a body: addresses that are not ours to touch; addresses that stood at the entry; the handed-in things -/
structure Ctx where
  G : AS
  B : AS
  P : Nat → V
def Ctx.add (C : Ctx) (p : Addr) : Ctx := { C with G := fun a => C.G a ∨ a = p }
def SlOk (K : PySem.W.Frag) (C : Ctx) (M : AS) (σ : L2.St) (H : Hp) (adr : Nat → Addr) (i : Nat) : Sl → Prop
  | .no => True
  | .frz d => ∃ v, σ[i]? = some (some v) ∧ Rep K (fun a => C.G a ∨ M a) H d v
  | .own d => ∃ v, σ[i]? = some (some v) ∧ M (adr i) ∧ ¬ C.B (adr i) ∧ Cont K (fun a => C.G a ∨ M a) H (adr i) d v
  | .par d => σ[i]? = some (some (C.P i)) ∧ M (adr i) ∧ Cont K (fun a => C.G a ∨ M a) H (adr i) d (C.P i)
structure Rel (K : PySem.W.Frag) (C : Ctx) (M : AS) (env : Env) (σ : L2.St) (H : Hp) : Prop where
  gm : ∀ a, C.G a → ¬ M a
  gt : ∀ a, C.G a → Mut (H a)
  mm : ∀ a, M a → Mut (H a)
  bh : ∀ a, C.B a → H a ≠ none
  len : env.length = σ.length
  sl : ∃ adr : Nat → Addr, (∀ i j s t, env[i]? = some s → env[j]? = some t → s.mine = true → t.mine = true → adr i = adr j → i = j) ∧ ∀ i s, env[i]? = some s → SlOk K C M σ H adr i s

theorem Rel.mh {K : PySem.W.Frag} {C : Ctx} {M : AS} {env : Env} {σ : L2.St} {H : Hp} (R : Rel K C M env σ H) (a : Addr) (m : M a) : H a ≠ none := fun z => by
  have := R.mm a m
  rw [z] at this
  exact this
theorem Rel.gh {K : PySem.W.Frag} {C : Ctx} {M : AS} {env : Env} {σ : L2.St} {H : Hp} (R : Rel K C M env σ H) (a : Addr) (m : C.G a) : H a ≠ none := fun z => by
  have := R.gt a m
  rw [z] at this
  exact this
theorem mut_same {H H' : Hp} {a : Addr} (k : ∀ o, H a = some o → H' a = some o) (m : Mut (H a)) : Mut (H' a) := by
  cases q : H a with
  | none => rw [q] at m; exact m.elim
  | some o => rw [q] at m; rw [k o q]; exact m
/-- all that is tracked and not ours stays -/
structure Keep (M : AS) (H H' : Hp) : Prop where
  kp : ∀ a o, H a = some o → ¬ M a → H' a = some o
  th : ∀ a, H a ≠ none → H' a ≠ none
def Grow (M : AS) (H : Hp) (M' : AS) : Prop := ∀ a, M' a → M a ∨ H a = none
theorem Keep.refl (M : AS) (H : Hp) : Keep M H H := ⟨fun _ _ e _ => e, fun _ e => e⟩
theorem Grow.refl (M : AS) (H : Hp) : Grow M H M := fun _ h => .inl h
theorem Keep.trans {M M1 : AS} {H H1 H2 : Hp} (a : Keep M H H1) (g : Grow M H M1) (b : Keep M1 H1 H2) : Keep M H H2 :=
  ⟨fun c o e n => b.kp c o (a.kp c o e n) fun z => (g c z).elim n fun q => (by rw [q] at e; cases e), fun c e => b.th c (a.th c e)⟩
theorem Grow.trans {M M1 M2 : AS} {H H1 : Hp} (k : Keep M H H1) (a : Grow M H M1) (b : Grow M1 H1 M2) : Grow M H M2 := fun c z => by
  rcases b c z with q | q
  · exact a c q
  · right
    cases e : H c with
    | none => rfl
    | some o => exact absurd q (k.th c (by rw [e]; simp))
theorem Keep.same {M : AS} {H H' : Hp} (s : Same H H') : Keep M H H' := ⟨fun a o e _ => s a o e, fun a e => by
  cases q : H a with
  | none => exact absurd q e
  | some o => rw [s a o q]; simp⟩
theorem Keep.rep {K : PySem.W.Frag} {G M M' : AS} {H H' : Hp} (k : Keep M H H') (g : Grow M H M') {d : D} {v : V} (r : Rep K (fun a => G a ∨ M a) H d v) : Rep K (fun a => G a ∨ M' a) H' d v :=
  Rep.mono (fun a o e n => k.kp a o e fun z => n (.inr z)) (fun a hn z => z.elim .inl fun z => (g a z).elim .inr fun q => absurd q hn) d v r
theorem Keep.reps {K : PySem.W.Frag} {G M M' : AS} {H H' : Hp} (k : Keep M H H') (g : Grow M H M') {d : List D} {v : List V} (r : Reps K (fun a => G a ∨ M a) H d v) : Reps K (fun a => G a ∨ M' a) H' d v :=
  Reps.mono (fun a o e n => k.kp a o e fun z => n (.inr z)) (fun a hn z => z.elim .inl fun z => (g a z).elim .inr fun q => absurd q hn) d v r

/-- the heap grew, nothing of ours was touched -/
theorem Rel.same {K : PySem.W.Frag} {C : Ctx} {M : AS} {env : Env} {σ : L2.St} {H H' : Hp} (R : Rel K C M env σ H) (s : Same H H') : Rel K C M env σ H' := by
  have th : ∀ a, H a ≠ none → H' a ≠ none := (Keep.same (M := M) s).th
  obtain ⟨adr, ha, hs⟩ := R.sl
  refine ⟨R.gm, fun a g => mut_same (s a) (R.gt a g), fun a g => mut_same (s a) (R.mm a g), fun a g => th a (R.bh a g), R.len, adr, ha, fun i sl e => ?_⟩
  have q := hs i sl e
  cases sl with
  | no => exact True.intro
  | frz d => obtain ⟨v, h1, h2⟩ := q; exact ⟨v, h1, Rep.mono (fun a o e _ => s a o e) (fun _ _ z => z) d v h2⟩
  | own d => obtain ⟨v, h1, h2, h3, h4⟩ := q; exact ⟨v, h1, h2, h3, h4.mono (fun o => s _ o) (fun a o e _ => s a o e) fun _ _ z => z⟩
  | par d => obtain ⟨h1, h2, h4⟩ := q; exact ⟨h1, h2, h4.mono (fun o => s _ o) (fun a o e _ => s a o e) fun _ _ z => z⟩
theorem same_new {H : Hp} {p : Addr} {o : HO} (h : H p = none) : Same H (upd H p o) := fun b x e => by
  rw [upd_ne (ne_of_none e h)]
  exact e
/-- a new thing at p, not ours yet -/
theorem Rel.add {K : PySem.W.Frag} {C : Ctx} {M : AS} {env : Env} {σ : L2.St} {H H' : Hp} {p : Addr} (R : Rel K C M env σ H) (s : Same H H') (hp : H p = none) (hp' : Mut (H' p)) : Rel K (C.add p) M env σ H' := by
  have R' := R.same s
  obtain ⟨adr, ha, hs⟩ := R.sl
  have np : ∀ a, H a ≠ none → a ≠ p := fun a h e => h (e ▸ hp)
  refine ⟨fun a g z => ?_, fun a g => ?_, R'.mm, R'.bh, R.len, adr, ha, fun i sl e => ?_⟩
  · rcases g with g | g
    · exact R.gm a g z
    · exact np a (R.mh a z) g
  · rcases g with g | g
    · exact R'.gt a g
    · rw [g]; exact hp'
  have q := hs i sl e
  have av : ∀ a, H a ≠ none → ((C.add p).G a ∨ M a) → (C.G a ∨ M a) := fun a hn z => z.elim (fun z => z.elim .inl fun z => absurd z (np a hn)) .inr
  cases sl with
  | no => exact True.intro
  | frz d => obtain ⟨v, h1, h2⟩ := q; exact ⟨v, h1, Rep.mono (fun a o e _ => s a o e) av d v h2⟩
  | own d => obtain ⟨v, h1, h2, h3, h4⟩ := q; exact ⟨v, h1, h2, h3, h4.mono (fun o => s _ o) (fun a o e _ => s a o e) av⟩
  | par d => obtain ⟨h1, h2, h4⟩ := q; exact ⟨h1, h2, h4.mono (fun o => s _ o) (fun a o e _ => s a o e) av⟩
/-- .. given up again -/
theorem Rel.drop {K : PySem.W.Frag} {C : Ctx} {M : AS} {env : Env} {σ : L2.St} {H : Hp} {p : Addr} (R : Rel K (C.add p) M env σ H) : Rel K C M env σ H := by
  obtain ⟨adr, ha, hs⟩ := R.sl
  refine ⟨fun a g => R.gm a (.inl g), fun a g => R.gt a (.inl g), R.mm, R.bh, R.len, adr, ha, fun i sl e => ?_⟩
  have q := hs i sl e
  have av : ∀ a, H a ≠ none → (C.G a ∨ M a) → ((C.add p).G a ∨ M a) := fun a hn z => z.elim (fun z => .inl (.inl z)) .inr
  cases sl with
  | no => exact True.intro
  | frz d => obtain ⟨v, h1, h2⟩ := q; exact ⟨v, h1, Rep.mono (fun a o e _ => e) av d v h2⟩
  | own d => obtain ⟨v, h1, h2, h3, h4⟩ := q; exact ⟨v, h1, h2, h3, h4.mono (fun o e => e) (fun a o e _ => e) av⟩
  | par d => obtain ⟨h1, h2, h4⟩ := q; exact ⟨h1, h2, h4.mono (fun o e => e) (fun a o e _ => e) av⟩

/-! ### readings over environments -/
/-- an exception: its class's name, its number -/
abbrev Ex := Str × Option Int
abbrev EK := D → Env → Prop
abbrev XW := Ex → Env → Prop
abbrev DE := Env → EK → XW → Prop
structure DK where
  nx : Env → Prop
  rt : D → Env → Prop
  ex : Ex → Env → Prop
  bk : Env → Prop := fun _ => False
  ct : Env → Prop := fun _ => False
abbrev DS := DK → Env → Prop
abbrev HW := Ex → Hp → Prop

/-- an expression's value is plain data -/
def up (K : PySem.W.Frag) (W : HW) (t : DE) : TE := fun σ H Q => ∃ (C : Ctx) (M : AS) (env : Env) (k : EK) (x : XW), Rel K C M env σ H ∧ t env k x ∧
  (∀ d env' v H' M', k d env' → Rel K C M' env' σ H' → Keep M H H' → Grow M H M' → Rep K (fun a => C.G a ∨ M' a) H' d v → Q v H') ∧
  (∀ e env' H' M', x e env' → Rel K C M' env' σ H' → Keep M H H' → Grow M H M' → W e H')
/-- an expression's value is a new mutable thing -/
def upF (K : PySem.W.Frag) (W : HW) (t : DE) : TE := fun σ H Q => ∃ (C : Ctx) (M : AS) (env : Env) (k : EK) (x : XW), Rel K C M env σ H ∧ t env k x ∧
  (∀ d env' p v H' M', k d env' → Rel K (C.add p) M' env' σ H' → Keep M H H' → Grow M H M' → H p = none → Cont K (fun a => (C.add p).G a ∨ M' a) H' p d v → Q v H') ∧
  (∀ e env' H' M', x e env' → Rel K C M' env' σ H' → Keep M H H' → Grow M H M' → W e H')
abbrev DT := Env → (Bool → Env → Prop) → XW → Prop
def upT (K : PySem.W.Frag) (W : HW) (t : DT) : TT := fun σ H Q => ∃ (C : Ctx) (M : AS) (env : Env) (k : Bool → Env → Prop) (x : XW), Rel K C M env σ H ∧ t env k x ∧
  (∀ d env' H' M', k d env' → Rel K C M' env' σ H' → Keep M H H' → Grow M H M' → Q d H') ∧
  (∀ e env' H' M', x e env' → Rel K C M' env' σ H' → Keep M H H' → Grow M H M' → W e H')
abbrev DA := Env → (List D → Env → Prop) → XW → Prop
def upA (K : PySem.W.Frag) (W : HW) (t : DA) : TA := fun σ H Q => ∃ (C : Ctx) (M : AS) (env : Env) (k : List D → Env → Prop) (x : XW), Rel K C M env σ H ∧ t env k x ∧
  (∀ ds env' vs H' M', k ds env' → Rel K C M' env' σ H' → Keep M H H' → Grow M H M' → Reps K (fun a => C.G a ∨ M' a) H' ds vs → Q vs H') ∧
  (∀ e env' H' M', x e env' → Rel K C M' env' σ H' → Keep M H H' → Grow M H M' → W e H')
/-- a statement; fr: what is returned is a new mutable thing -/
def upS (K : PySem.W.Frag) (W : HW) (fr : Bool) (t : DS) : TS := fun S σ H => ∃ (C : Ctx) (M : AS) (env : Env) (k : DK), Rel K C M env σ H ∧ t k env ∧
  (∀ env' σ' H' M', k.nx env' → Rel K C M' env' σ' H' → Keep M H H' → Grow M H M' → S.nx σ' H') ∧
  (∀ d env' v σ' H' M', k.rt d env' → Rel K C M' env' σ' H' → Keep M H H' → Grow M H M' →
    (if fr = true then ∃ p, ¬ C.B p ∧ ¬ C.G p ∧ ¬ M' p ∧ Cont K (fun a => (C.G a ∨ M' a) ∨ a = p) H' p d v else Rep K (fun a => C.G a ∨ M' a) H' d v) → S.rt v H') ∧
  (∀ e env' σ' H' M', k.ex e env' → Rel K C M' env' σ' H' → Keep M H H' → Grow M H M' → W e H') ∧
  (∀ env' σ' H' M', k.bk env' → Rel K C M' env' σ' H' → Keep M H H' → Grow M H M' → S.bk σ' H') ∧
  (∀ env' σ' H' M', k.ct env' → Rel K C M' env' σ' H' → Keep M H H' → Grow M H M' → S.ct σ' H')

theorem pe_conv {X : Cx} {e : Expr} {t t' : TE} (h : PE X e t) (c : ∀ σ H Q, t' σ H Q → t σ H Q) : PE X e t' := ⟨fun pins s σ H Q I q => h.run pins s σ H Q I (c σ H Q q)⟩
theorem pt_conv {X : Cx} {e : Expr} {t t' : TT} (h : PT X e t) (c : ∀ σ H Q, t' σ H Q → t σ H Q) : PT X e t' := ⟨fun pins s σ H Q I q => h.run pins s σ H Q I (c σ H Q q)⟩
theorem pa_conv {X : Cx} {e : List Expr} {t t' : TA} (h : PA X e t) (c : ∀ σ H Q, t' σ H Q → t σ H Q) : PA X e t' := ⟨fun pos pins s σ H Q I q => h.run pos pins s σ H Q I (c σ H Q q)⟩
theorem ps_conv {X : Cx} {e : Stmt} {t t' : TS} (h : PS X e t) (c : ∀ D σ H, t' D σ H → t D σ H) : PS X e t' := ⟨fun pins s σ H D I q => h.run pins s σ H D I (c D σ H q)⟩
theorem pss_conv {X : Cx} {e : List Stmt} {t t' : TS} (h : PSs X e t) (c : ∀ D σ H, t' D σ H → t D σ H) : PSs X e t' := ⟨fun pins s σ H D I q => h.run pins s σ H D I (c D σ H q)⟩
end FX

set_option Elab.async false
set_option linter.all false
set_option maxRecDepth 100000
set_option maxHeartbeats 1000000
/-! FxB: the readings of expressions over environments, and that they hold -/
namespace FX
open PySem PySem.Spec PyProof.Rows L2

/-! ### readings -/
def dVar (i : Nat) : DE := fun env k _ => ∃ d, env[i]? = some (.frz d) ∧ k d env
def dC (d : D) : DE := fun env k _ => k d env
def dOp (f : D → D → Option D) (ta tb : DE) : DE := fun env k x => ta env (fun a e1 => tb e1 (fun b e2 => ∃ d, f a b = some d ∧ k d e2) x) x
def dUn (f : D → Option D) (ta : DE) : DE := fun env k x => ta env (fun a e1 => ∃ d, f a = some d ∧ k d e1) x
def daNil : DA := fun env k _ => k [] env
def daCons (t : DE) (ts : DA) : DA := fun env k x => t env (fun d e1 => ts e1 (fun ds e2 => k (d :: ds) e2) x) x
def dTup (t : DA) : DE := fun env k x => t env (fun ds e => ds.length ≤ 16777216 ∧ k (.tup ds) e) x
def dLst (t : DA) : DE := fun env k x => t env (fun ds e => ds.length ≤ 16777216 ∧ k (.lst ds) e) x
def dCall (f : List D → Option D) (t : DA) : DE := fun env k x => t env (fun ds e => ∃ d, f ds = some d ∧ k d e) x
def dtB (t : DE) : DT := fun env k x => t env (fun d e => ∃ b, d = .bl b ∧ k b e) x
def truD : D → Option Bool
  | .non => some false
  | .bl b => some b
  | .int i => some (i != 0)
  | .tup ds => some (!ds.isEmpty)
  | .lst ds => some (!ds.isEmpty)
  | _ => none
def dtTru (t : DE) : DT := fun env k x => t env (fun d e => ∃ b, truD d = some b ∧ k b e) x
def dtNot (t : DT) : DT := fun env k x => t env (fun b e => k (!b) e) x
def dtAnd (t u : DT) : DT := fun env k x => t env (fun b e => if b = true then u e k x else k false e) x
def dtOr (t u : DT) : DT := fun env k x => t env (fun b e => if b = true then k true e else u e k x) x
def dAndV (t u : DE) : DE := fun env k x => t env (fun d e => ∃ b, d = .bl b ∧ if b = true then u e k x else k (.bl false) e) x
def dOrV (t u : DE) : DE := fun env k x => t env (fun d e => ∃ b, d = .bl b ∧ if b = true then k (.bl true) e else u e k x) x
def dNotV (t : DE) : DE := fun env k x => t env (fun d e => ∃ b, d = .bl b ∧ k (.bl (!b)) e) x
def dIf (c : DT) (t u : DE) : DE := fun env k x => c env (fun b e => if b = true then t e k x else u e k x) x
def dChain (f g : D → D → Option D) (ta tb tc : DE) : DE := fun env k x => ta env (fun a e1 => tb e1 (fun b e2 => ∃ z, f a b = some (.bl z) ∧
  if z = true then tc e2 (fun c e3 => ∃ d, g b c = some d ∧ k d e3) x else k (.bl false) e2) x) x

/-! ### a rule by values, over data -/
def RepQ (K : PySem.W.Frag) (Av : AS) (H : Hp) (d : D) (Q : VK) : Prop := ∀ v H', Same H H' → Rep K Av H' d v → Q v H'
def RepFQ (K : PySem.W.Frag) (Av : AS) (H : Hp) (d : D) (Q : VK) : Prop := ∀ p v H', Same H H' → H p = none → Cont K (fun a => Av a ∨ a = p) H' p d v → Q v H'
def AvT (Av : AS) (H : Hp) : Prop := ∀ c, Av c → Mut (H c)
theorem AvT.new {Av : AS} {H : Hp} (h : AvT Av H) {p : Addr} (hp : H p = none) : ¬ Av p := fun z => by
  have := h p z
  rw [hp] at this
  exact this
theorem AvT.tup {Av : AS} {H : Hp} (h : AvT Av H) {p : Addr} {xs : List V} (hp : H p = some (.tup xs)) : ¬ Av p := fun z => by
  have := h p z
  rw [hp] at this
  exact this
structure Bin (K : PySem.W.Frag) (r : R2) (f : D → D → Option D) : Prop where
  ok : ∀ {Av H a b d x y Q}, AvT Av H → Rep K Av H a x → Rep K Av H b y → f a b = some d → RepQ K Av H d Q → r x y H Q
structure BinF (K : PySem.W.Frag) (r : R2) (f : D → D → Option D) : Prop where
  ok : ∀ {Av H a b d x y Q}, AvT Av H → Rep K Av H a x → Rep K Av H b y → f a b = some d → RepFQ K Av H d Q → r x y H Q
structure Una (K : PySem.W.Frag) (r : V → Hp → VK → Prop) (f : D → Option D) : Prop where
  ok : ∀ {Av H a d x Q}, AvT Av H → Rep K Av H a x → f a = some d → RepQ K Av H d Q → r x H Q
structure Cal (K : PySem.W.Frag) (r : List V → Hp → VK → Prop) (f : List D → Option D) : Prop where
  ok : ∀ {Av H ds d xs Q}, AvT Av H → Reps K Av H ds xs → f ds = some d → RepQ K Av H d Q → r xs H Q
structure CalF (K : PySem.W.Frag) (r : List V → Hp → VK → Prop) (f : List D → Option D) : Prop where
  ok : ∀ {Av H ds d xs Q}, AvT Av H → Reps K Av H ds xs → f ds = some d → RepFQ K Av H d Q → r xs H Q

section
variable {K : PySem.W.Frag} {W : HW} {C : Ctx} {M : AS} {env : Env} {σ : L2.St} {H : Hp} {Q : VK}
theorem Rel.avt (R : Rel K C M env σ H) : AvT (fun a => C.G a ∨ M a) H := fun c h => h.elim (R.gt c) (R.mm c)
/-- the end of a pure rule -/
theorem Rel.fin {C : Ctx} {M M0 : AS} {H0 : Hp} {k : EK} {d : D} (R : Rel K C M env σ H) (kp : Keep M0 H0 H) (g : Grow M0 H0 M) (kd : k d env)
    (hk : ∀ d env' v H' M', k d env' → Rel K C M' env' σ H' → Keep M0 H0 H' → Grow M0 H0 M' → Rep K (fun a => C.G a ∨ M' a) H' d v → Q v H') : RepQ K (fun a => C.G a ∨ M a) H d Q :=
  fun v H' s r => hk d env v H' M kd (R.same s) (kp.trans g (.same s)) g r
theorem Rel.finF {C : Ctx} {M M0 : AS} {H0 : Hp} {k : EK} {d : D} (R : Rel K C M env σ H) (kp : Keep M0 H0 H) (g : Grow M0 H0 M) (kd : k d env)
    (hk : ∀ d env' p v H' M', k d env' → Rel K (C.add p) M' env' σ H' → Keep M0 H0 H' → Grow M0 H0 M' → H0 p = none → Cont K (fun a => (C.add p).G a ∨ M' a) H' p d v → Q v H') : RepFQ K (fun a => C.G a ∨ M a) H d Q :=
  fun p v H' s hp c => by
    have R' := R.add s hp c.mut
    refine hk d env p v H' M kd R' (kp.trans g (.same s)) g ?_ (c.mono (fun _ e => e) (fun _ _ e _ => e) fun a _ z => ?_)
    · cases e : H0 p with
      | none => rfl
      | some o => exact absurd hp (kp.th p (by rw [e]; simp))
    · rcases z with (z | z) | z
      · exact .inl (.inl z)
      · exact .inr z
      · exact .inl (.inr z)
/-- a new mutable thing is plain data for whoever does not change it -/
theorem up_of_upF {t : DE} {σ : L2.St} {H : Hp} {Q : VK} : up K W t σ H Q → upF K W t σ H Q := by
  rintro ⟨C, M, env, k, x, R, h, hk, hx⟩
  refine ⟨C, M, env, k, x, R, h, fun d env' p v H' M' kd R' kp g hp c => ?_, hx⟩
  refine hk d env' v H' M' kd R'.drop kp g (c.freeze (fun a _ z => z.elim (fun z => .inl (.inl z)) .inr) fun z => ?_)
  rcases z with z | z
  · exact R.gh p z hp
  · exact R'.gm p (.inr rfl) z
theorem de_F {X : Cx} {e : Expr} {t : DE} (h : PE X e (upF X.K W t)) : PE X e (up X.K W t) := pe_conv h fun _ _ _ => up_of_upF

theorem sim_op {r : R2} {f : D → D → Option D} {ta tb : DE} (B : Bin K r f) (h : up K W (dOp f ta tb) σ H Q) : tOp r (up K W ta) (up K W tb) σ H Q := by
  obtain ⟨C, M, env, k, x, R, h, hk, hx⟩ := h
  refine ⟨C, M, env, _, x, R, h, fun a e1 va H1 M1 h1 R1 k1 g1 r1 => ?_, hx⟩
  refine ⟨C, M1, e1, _, x, R1, h1, fun b e2 vb H2 M2 h2 R2 k2 g2 r2 => ?_, fun e env' H' M' xe R' k' g' => hx e env' H' M' xe R' (k1.trans g1 k') (Grow.trans k1 g1 g')⟩
  obtain ⟨d, hd, kd⟩ := h2
  exact B.ok R2.avt (k2.rep g2 r1) r2 hd (R2.fin (k1.trans g1 k2) (Grow.trans k1 g1 g2) kd hk)
theorem sim_opF {r : R2} {f : D → D → Option D} {ta tb : DE} (B : BinF K r f) (h : upF K W (dOp f ta tb) σ H Q) : tOp r (up K W ta) (up K W tb) σ H Q := by
  obtain ⟨C, M, env, k, x, R, h, hk, hx⟩ := h
  refine ⟨C, M, env, _, x, R, h, fun a e1 va H1 M1 h1 R1 k1 g1 r1 => ?_, hx⟩
  refine ⟨C, M1, e1, _, x, R1, h1, fun b e2 vb H2 M2 h2 R2 k2 g2 r2 => ?_, fun e env' H' M' xe R' k' g' => hx e env' H' M' xe R' (k1.trans g1 k') (Grow.trans k1 g1 g')⟩
  obtain ⟨d, hd, kd⟩ := h2
  exact B.ok R2.avt (k2.rep g2 r1) r2 hd (R2.finF (k1.trans g1 k2) (Grow.trans k1 g1 g2) kd hk)
theorem sim_un {r : V → Hp → VK → Prop} {f : D → Option D} {ta : DE} (B : Una K r f) (h : up K W (dUn f ta) σ H Q) : tUn r (up K W ta) σ H Q := by
  obtain ⟨C, M, env, k, x, R, h, hk, hx⟩ := h
  refine ⟨C, M, env, _, x, R, h, fun a e1 va H1 M1 h1 R1 k1 g1 r1 => ?_, hx⟩
  obtain ⟨d, hd, kd⟩ := h1
  exact B.ok R1.avt r1 hd (R1.fin k1 g1 kd hk)
theorem sim_call {r : List V → Hp → VK → Prop} {f : List D → Option D} {t : DA} (B : Cal K r f) (h : up K W (dCall f t) σ H Q) : tCB r (upA K W t) σ H Q := by
  obtain ⟨C, M, env, k, x, R, h, hk, hx⟩ := h
  refine ⟨C, M, env, _, x, R, h, fun ds e1 vs H1 M1 h1 R1 k1 g1 r1 => ?_, hx⟩
  obtain ⟨d, hd, kd⟩ := h1
  exact B.ok R1.avt r1 hd (R1.fin k1 g1 kd hk)
theorem sim_callF {r : List V → Hp → VK → Prop} {f : List D → Option D} {t : DA} (B : CalF K r f) (h : upF K W (dCall f t) σ H Q) : tCB r (upA K W t) σ H Q := by
  obtain ⟨C, M, env, k, x, R, h, hk, hx⟩ := h
  refine ⟨C, M, env, _, x, R, h, fun ds e1 vs H1 M1 h1 R1 k1 g1 r1 => ?_, hx⟩
  obtain ⟨d, hd, kd⟩ := h1
  exact B.ok R1.avt r1 hd (R1.finF k1 g1 kd hk)
end

/-! ### the judgements -/
section
variable {X : Cx} {W : HW} {a b c e : Expr} {es : List Expr} {pos : Pos} {ta tb tc : DE} {t : DA}
theorem de_var (i : Nat) {x : Str} (hN : X.N[i]? = some x := by rfl) (hv : Vis X.env.scope x := by first | exact Or.inl rfl | exact Or.inr (Or.inl rfl) | exact Or.inr (Or.inr rfl)) (hd : (x == ("__debug__" : Str)) = false := by decide)
    (hcd : (x == ("__classdict__" : Str)) = false := by decide) : PE X (.Name x pos) (up X.K W (dVar i)) := by
  refine pe_conv (pe_var hN hv hd hcd) fun σ H Q h => ?_
  obtain ⟨C, M, env, k, x, R, ⟨d, he, kd⟩, hk, hx⟩ := h
  obtain ⟨adr, _, hs⟩ := R.sl
  obtain ⟨v, h1, h2⟩ := hs i _ he
  exact ⟨v, h1, hk d env v H M kd R (.refl _ _) (.refl _ _) h2⟩
theorem up_const {K : PySem.W.Frag} {d : D} {v : V} (hr : ∀ Av H, Rep K Av H d v) : ∀ σ H Q, up K W (dC d) σ H Q → tC v σ H Q := fun σ H Q h => by
  obtain ⟨C, M, env, k, x, R, kd, hk, hx⟩ := h
  exact hk d env v H M kd R (.refl _ _) (.refl _ _) (hr _ _)
theorem de_int {i j} : PE X (.Constant (.int i) j pos) (up X.K W (dC (.int i))) := pe_conv pe_int (up_const fun _ _ => rfl)
theorem de_bl {b j} : PE X (.Constant (.bool b) j pos) (up X.K W (dC (.bl b))) := pe_conv pe_bl (up_const fun _ _ => rfl)
theorem de_non {j} : PE X (.Constant .none j pos) (up X.K W (dC .non)) := pe_conv pe_non (up_const fun _ _ => rfl)
theorem de_str {x j} : PE X (.Constant (.str x) j pos) (up X.K W (dC (.str x))) := pe_conv pe_str (up_const fun _ _ => rfl)
/-- a module's int constant -/
theorem de_globI {x : Str} {i : Int} {tk : Tok} (hg : Gl X x) (hm : X.mg x = some (.int i tk)) (hd : (x == ("__debug__" : Str)) = false := by decide) : PE X (.Name x pos) (up X.K W (dC (.int i))) :=
  pe_conv (pe_glob (v := .int i) hg hm ⟨_, rfl⟩ hd) (up_const fun _ _ => rfl)
theorem de_op {op : Operator} {r : R2} {f : D → D → Option D} (ho : OpR X (binaryOp op) r) (B : Bin X.K r f) (ha : PE X a (up X.K W ta)) (hb : PE X b (up X.K W tb)) : PE X (.BinOp a op b pos) (up X.K W (dOp f ta tb)) :=
  pe_conv (pe_op ho ha hb) fun _ _ _ => sim_op B
theorem de_opF {op : Operator} {r : R2} {f : D → D → Option D} (ho : OpR X (binaryOp op) r) (B : BinF X.K r f) (ha : PE X a (up X.K W ta)) (hb : PE X b (up X.K W tb)) : PE X (.BinOp a op b pos) (upF X.K W (dOp f ta tb)) :=
  pe_conv (pe_op ho ha hb) fun _ _ _ => sim_opF B
theorem de_cmp {op : CmpOp} {r : R2} {f : D → D → Option D} (ho : OpR X (compareOp op) r) (B : Bin X.K r f) (ha : PE X a (up X.K W ta)) (hb : PE X b (up X.K W tb)) (hm : behindInMarks op b = false) : PE X (.Compare a [op] [b] pos) (up X.K W (dOp f ta tb)) :=
  pe_conv (pe_cmpR ho ha hb hm) fun _ _ _ => sim_op B
theorem de_un {op : UnaryOp} {r : V → Hp → VK → Prop} {f : D → Option D} (ho : UnR X (unaryOp op) r) (B : Una X.K r f) (ha : PE X a (up X.K W ta)) : PE X (.UnaryOp op a pos) (up X.K W (dUn f ta)) :=
  pe_conv (pe_un ho ha) fun _ _ _ => sim_un B
theorem de_ix {r : R2} {f : D → D → Option D} (ho : IxR X r) (B : Bin X.K r f) (ha : PE X a (up X.K W ta)) (hb : PE X b (up X.K W tb)) (hs : PlainIx b) : PE X (.Subscript a b pos) (up X.K W (dOp f ta tb)) :=
  pe_conv (pe_ix ho ha hb hs) fun _ _ _ => sim_op B
theorem de_callB {id : String} {x : Str} {p : Pos} {r : List V → Hp → VK → Prop} {f : List D → Option D} (hc : CallR X (.builtin id) r) (B : Cal X.K r f) (hg : Gl X x) (hm : X.mg x = none) (hv : bootBuiltins x = some (.builtin id)) (ha : PA X (e :: es) (upA X.K W t)) (hn : x ≠ "__name__" := by decide) (hdb : (x == ("__debug__" : Str)) = false := by decide)
    (he : starEach (e :: es) X.env = (false, eval e X.env) :: starEach es X.env := by rfl) (hpl : (backTo pos (starEach es X.env)).any (·.1) = false := by rfl) : PE X (.Call (.Name x p) (e :: es) [] pos) (up X.K W (dCall f t)) :=
  pe_conv (pe_callB hc hg hm hv ha hn hdb he hpl) fun _ _ _ => sim_call B
theorem de_callBF {id : String} {x : Str} {p : Pos} {r : List V → Hp → VK → Prop} {f : List D → Option D} (hc : CallR X (.builtin id) r) (B : CalF X.K r f) (hg : Gl X x) (hm : X.mg x = none) (hv : bootBuiltins x = some (.builtin id)) (ha : PA X (e :: es) (upA X.K W t)) (hn : x ≠ "__name__" := by decide) (hdb : (x == ("__debug__" : Str)) = false := by decide)
    (he : starEach (e :: es) X.env = (false, eval e X.env) :: starEach es X.env := by rfl) (hpl : (backTo pos (starEach es X.env)).any (·.1) = false := by rfl) : PE X (.Call (.Name x p) (e :: es) [] pos) (upF X.K W (dCall f t)) :=
  pe_conv (pe_callB hc hg hm hv ha hn hdb he hpl) fun _ _ _ => sim_callF B
theorem de_callT {T : String} {x : Str} {p : Pos} {r : List V → Hp → VK → Prop} {f : List D → Option D} (hc : CallR X (.type T) r) (B : Cal X.K r f) (hg : Gl X x) (hm : X.mg x = none) (hv : bootBuiltins x = some (.type T)) (ha : PA X (e :: es) (upA X.K W t)) (hn : x ≠ "__name__" := by decide) (hdb : (x == ("__debug__" : Str)) = false := by decide)
    (he : starEach (e :: es) X.env = (false, eval e X.env) :: starEach es X.env := by rfl) (hpl : (backTo pos (starEach es X.env)).any (·.1) = false := by rfl) : PE X (.Call (.Name x p) (e :: es) [] pos) (up X.K W (dCall f t)) :=
  pe_conv (pe_callTy hc hg hm hv ha hn hdb he hpl) fun _ _ _ => sim_call B
theorem de_callTF {T : String} {x : Str} {p : Pos} {r : List V → Hp → VK → Prop} {f : List D → Option D} (hc : CallR X (.type T) r) (B : CalF X.K r f) (hg : Gl X x) (hm : X.mg x = none) (hv : bootBuiltins x = some (.type T)) (ha : PA X (e :: es) (upA X.K W t)) (hn : x ≠ "__name__" := by decide) (hdb : (x == ("__debug__" : Str)) = false := by decide)
    (he : starEach (e :: es) X.env = (false, eval e X.env) :: starEach es X.env := by rfl) (hpl : (backTo pos (starEach es X.env)).any (·.1) = false := by rfl) : PE X (.Call (.Name x p) (e :: es) [] pos) (upF X.K W (dCall f t)) :=
  pe_conv (pe_callTy hc hg hm hv ha hn hdb he hpl) fun _ _ _ => sim_callF B

/-! arguments, displays -/
theorem da_nil : PA X [] (upA X.K W daNil) := by
  refine pa_conv pa_nil fun σ H Q h => ?_
  obtain ⟨C, M, env, k, x, R, kd, hk, hx⟩ := h
  exact hk [] env [] H M kd R (.refl _ _) (.refl _ _) rfl
theorem da_cons (ha : PE X e (up X.K W ta)) (hr : PA X es (upA X.K W t)) (hs : starEach (e :: es) X.env = (false, eval e X.env) :: starEach es X.env := by rfl) : PA X (e :: es) (upA X.K W (daCons ta t)) := by
  refine pa_conv (pa_cons ha hr hs) fun σ H Q h => ?_
  obtain ⟨C, M, env, k, x, R, h, hk, hx⟩ := h
  refine ⟨C, M, env, _, x, R, h, fun a e1 va H1 M1 h1 R1 k1 g1 r1 => ?_, hx⟩
  refine ⟨C, M1, e1, _, x, R1, h1, fun ds e2 vs H2 M2 h2 R2 k2 g2 r2 => ?_, fun e env' H' M' xe R' k' g' => hx e env' H' M' xe R' (k1.trans g1 k') (Grow.trans k1 g1 g')⟩
  exact hk _ e2 _ H2 M2 h2 R2 (k1.trans g1 k2) (Grow.trans k1 g1 g2) (.cons (k2.rep g2 r1) r2)
theorem line_eq : (sizeLine : Nat) = 16777216 := sizeLine_eq
theorem de_tup {x1} (h : PA X es (upA X.K W t)) : PE X (.Tuple es x1 pos) (up X.K W (dTup t)) := by
  refine pe_conv (pe_tup h) fun σ H Q h => ?_
  obtain ⟨C, M, env, k, x, R, h, hk, hx⟩ := h
  refine ⟨C, M, env, _, x, R, h, fun ds e1 vs H1 M1 h1 R1 k1 g1 r1 => ?_, hx⟩
  obtain ⟨hl, kd⟩ := h1
  refine ⟨by rw [r1.length, line_eq]; exact hl, fun p hp => ?_⟩
  refine R1.fin k1 g1 kd hk (.ref p) _ (same_new hp) ⟨p, vs, rfl, R1.avt.new hp, upd_same, ?_⟩
  exact Reps.mono (fun a o e _ => same_new hp a o e) (fun _ _ z => z) ds vs r1
theorem de_lst (h : PA X es (upA X.K W t)) : PE X (.List es pos) (upF X.K W (dLst t)) := by
  refine pe_conv (pe_lst h) fun σ H Q h => ?_
  obtain ⟨C, M, env, k, x, R, h, hk, hx⟩ := h
  refine ⟨C, M, env, _, x, R, h, fun ds e1 vs H1 M1 h1 R1 k1 g1 r1 => ?_, hx⟩
  obtain ⟨hl, kd⟩ := h1
  refine ⟨by rw [r1.length, line_eq]; exact hl, fun p hp => ?_⟩
  refine R1.finF k1 g1 kd hk p (.ref p) _ (same_new hp) hp ⟨rfl, vs, upd_same, ?_⟩
  refine Reps.mono (fun a o e _ => same_new hp a o e) (fun a hn z => z.elim id fun z => ?_) ds vs r1
  exact absurd hp (z ▸ hn)

/-! tests -/
theorem dt_val (h : PE X e (up X.K W ta)) (he : ∀ whole, isTrue e X.env whole = (do let v ← whole; standAt e.pos; holding [v] (truthy v)) := by intro _; rfl) : PT X e (upT X.K W (dtB ta)) := by
  refine pt_conv (pt_val h he) fun σ H Q h => ?_
  obtain ⟨C, M, env, k, x, R, h, hk, hx⟩ := h
  refine ⟨C, M, env, _, x, R, h, fun a e1 va H1 M1 h1 R1 k1 g1 r1 => ?_, hx⟩
  obtain ⟨b, rfl, kd⟩ := h1
  have r1 : va = .bl b := r1
  exact ⟨b, r1, hk b e1 H1 M1 kd R1 k1 g1⟩
theorem dt_cmp {op : CmpOp} {r : R2} {f : D → D → Option D} (ho : OpR X (compareOp op) r) (B : Bin X.K r f) (ha : PE X a (up X.K W ta)) (hb : PE X b (up X.K W tb)) (hm : behindInMarks op b = false) : PT X (.Compare a [op] [b] pos) (upT X.K W (dtB (dOp f ta tb))) := by
  refine pt_conv (pt_cmpR ho ha hb hm) fun σ H Q h => ?_
  obtain ⟨C, M, env, k, x, R, h, hk, hx⟩ := h
  refine sim_op B ⟨C, M, env, _, x, R, h, fun a e1 va H1 M1 h1 R1 k1 g1 r1 => ?_, hx⟩
  obtain ⟨b, rfl, kd⟩ := h1
  have r1 : va = .bl b := r1
  exact ⟨b, r1, hk b e1 H1 M1 kd R1 k1 g1⟩
theorem tru_rep {K : PySem.W.Frag} {Av : AS} {H : Hp} : ∀ {d : D} {v : V} {b : Bool}, Rep K Av H d v → truD d = some b → TruV K v H b
  | .non, _, _, h, e => by cases h; cases e; rfl
  | .bl _, _, _, h, e => by cases h; cases e; rfl
  | .int _, _, _, h, e => by cases h; cases e; rfl
  | .tup ds, _, _, ⟨a, vs, h1, _, h2, r⟩, e => by
    subst h1
    refine .inr (.inl ⟨vs, SqT.of h2, ?_⟩)
    have e' : some (!ds.isEmpty) = some _ := e
    rw [← Option.some.inj e']
    have := r.length
    cases ds <;> cases vs <;> simp at this ⊢
  | .lst ds, _, _, ⟨a, vs, h1, _, h2, r⟩, e => by
    subst h1
    refine .inl ⟨vs, SqL.of h2, ?_⟩
    have e' : some (!ds.isEmpty) = some _ := e
    rw [← Option.some.inj e']
    have := r.length
    cases ds <;> cases vs <;> simp at this ⊢
  | .str _, _, _, _, e | .dI _, _, _, _, e | .dT _, _, _, _, e | .scr _, _, _, _, e | .obj _ _, _, _, _, e => by cases e
theorem dt_tru (h : PE X e (up X.K W ta)) (he : ∀ whole, isTrue e X.env whole = (do let v ← whole; standAt e.pos; holding [v] (truthy v)) := by intro _; rfl) : PT X e (upT X.K W (dtTru ta)) := by
  refine pt_conv (pt_truth h he) fun σ H Q h => ?_
  obtain ⟨C, M, env, k, x, R, h, hk, hx⟩ := h
  refine ⟨C, M, env, _, x, R, h, fun a e1 va H1 M1 h1 R1 k1 g1 r1 => ?_, hx⟩
  obtain ⟨b, hb, kd⟩ := h1
  exact ⟨b, tru_rep r1 hb, hk b e1 H1 M1 kd R1 k1 g1⟩
theorem dt_not {t : DT} (h : PT X e (upT X.K W t)) : PT X (.UnaryOp .Not e pos) (upT X.K W (dtNot t)) := by
  refine pt_conv (pt_not h) fun σ H Q h => ?_
  obtain ⟨C, M, env, k, x, R, h, hk, hx⟩ := h
  exact ⟨C, M, env, _, x, R, h, fun b e1 H1 M1 h1 R1 k1 g1 => hk (!b) e1 H1 M1 h1 R1 k1 g1, hx⟩
theorem pw_conv {e : Expr} {t t' : TT} (h : PW X e t) (c : ∀ σ H Q, t' σ H Q → t σ H Q) : PW X e t' := ⟨fun wh pins s σ H Q I q => h.run wh pins s σ H Q I (c σ H Q q)⟩
theorem dw_and1 {t : DT} (h : PT X a (upT X.K W t)) : PW X (.BoolOp .And [a] pos) (upT X.K W t) := pw_and1 h
theorem dw_or1 {t : DT} (h : PT X a (upT X.K W t)) : PW X (.BoolOp .Or [a] pos) (upT X.K W t) := pw_or1 h
theorem dw_and {t u : DT} {rest : List Expr} (h : PT X a (upT X.K W t)) (h2 : PW X (.BoolOp .And (b :: rest) pos) (upT X.K W u)) : PW X (.BoolOp .And (a :: b :: rest) pos) (upT X.K W (dtAnd t u)) := by
  refine pw_conv (pw_and h h2) fun σ H Q h => ?_
  obtain ⟨C, M, env, k, x, R, h, hk, hx⟩ := h
  refine ⟨C, M, env, _, x, R, h, fun b e1 H1 M1 h1 R1 k1 g1 => ?_, hx⟩
  cases b with
  | true =>
    rw [if_pos rfl] at h1 ⊢
    exact ⟨C, M1, e1, k, x, R1, h1, fun b e2 H2 M2 h2 R2 k2 g2 => hk b e2 H2 M2 h2 R2 (k1.trans g1 k2) (Grow.trans k1 g1 g2), fun e env' H' M' xe R' k' g' => hx e env' H' M' xe R' (k1.trans g1 k') (Grow.trans k1 g1 g')⟩
  | false =>
    rw [if_neg Bool.false_ne_true] at h1 ⊢
    exact hk false e1 H1 M1 h1 R1 k1 g1
theorem dw_or {t u : DT} {rest : List Expr} (h : PT X a (upT X.K W t)) (h2 : PW X (.BoolOp .Or (b :: rest) pos) (upT X.K W u)) : PW X (.BoolOp .Or (a :: b :: rest) pos) (upT X.K W (dtOr t u)) := by
  refine pw_conv (pw_or h h2) fun σ H Q h => ?_
  obtain ⟨C, M, env, k, x, R, h, hk, hx⟩ := h
  refine ⟨C, M, env, _, x, R, h, fun b e1 H1 M1 h1 R1 k1 g1 => ?_, hx⟩
  cases b with
  | true =>
    rw [if_pos rfl] at h1 ⊢
    exact hk true e1 H1 M1 h1 R1 k1 g1
  | false =>
    rw [if_neg Bool.false_ne_true] at h1 ⊢
    exact ⟨C, M1, e1, k, x, R1, h1, fun b e2 H2 M2 h2 R2 k2 g2 => hk b e2 H2 M2 h2 R2 (k1.trans g1 k2) (Grow.trans k1 g1 g2), fun e env' H' M' xe R' k' g' => hx e env' H' M' xe R' (k1.trans g1 k') (Grow.trans k1 g1 g')⟩
theorem de_one {op} (h : PE X a (up X.K W ta)) : PE X (.BoolOp op [a] pos) (up X.K W ta) := pe_one h
theorem de_and {rest : List Expr} (ha : PE X a (up X.K W ta)) (hb : PE X (.BoolOp .And (b :: rest) pos) (up X.K W tb)) : PE X (.BoolOp .And (a :: b :: rest) pos) (up X.K W (dAndV ta tb)) := by
  refine pe_conv (pe_and ha hb) fun σ H Q h => ?_
  obtain ⟨C, M, env, k, x, R, h, hk, hx⟩ := h
  refine ⟨C, M, env, _, x, R, h, fun d e1 v H1 M1 h1 R1 k1 g1 r1 => ?_, hx⟩
  obtain ⟨b, rfl, h1⟩ := h1
  have r1 : v = .bl b := r1
  refine ⟨b, r1, ?_⟩
  cases b with
  | true =>
    rw [if_pos rfl] at h1 ⊢
    exact ⟨C, M1, e1, k, x, R1, h1, fun b e2 v H2 M2 h2 R2 k2 g2 r2 => hk b e2 v H2 M2 h2 R2 (k1.trans g1 k2) (Grow.trans k1 g1 g2) r2, fun e env' H' M' xe R' k' g' => hx e env' H' M' xe R' (k1.trans g1 k') (Grow.trans k1 g1 g')⟩
  | false =>
    rw [if_neg Bool.false_ne_true] at h1 ⊢
    exact hk _ e1 _ H1 M1 h1 R1 k1 g1 rfl
theorem de_or {rest : List Expr} (ha : PE X a (up X.K W ta)) (hb : PE X (.BoolOp .Or (b :: rest) pos) (up X.K W tb)) : PE X (.BoolOp .Or (a :: b :: rest) pos) (up X.K W (dOrV ta tb)) := by
  refine pe_conv (pe_or ha hb) fun σ H Q h => ?_
  obtain ⟨C, M, env, k, x, R, h, hk, hx⟩ := h
  refine ⟨C, M, env, _, x, R, h, fun d e1 v H1 M1 h1 R1 k1 g1 r1 => ?_, hx⟩
  obtain ⟨b, rfl, h1⟩ := h1
  have r1 : v = .bl b := r1
  refine ⟨b, r1, ?_⟩
  cases b with
  | true =>
    rw [if_pos rfl] at h1 ⊢
    exact hk _ e1 _ H1 M1 h1 R1 k1 g1 rfl
  | false =>
    rw [if_neg Bool.false_ne_true] at h1 ⊢
    exact ⟨C, M1, e1, k, x, R1, h1, fun b e2 v H2 M2 h2 R2 k2 g2 r2 => hk b e2 v H2 M2 h2 R2 (k1.trans g1 k2) (Grow.trans k1 g1 g2) r2, fun e env' H' M' xe R' k' g' => hx e env' H' M' xe R' (k1.trans g1 k') (Grow.trans k1 g1 g')⟩
theorem de_not (ha : PE X a (up X.K W ta)) : PE X (.UnaryOp .Not a pos) (up X.K W (dNotV ta)) := by
  refine pe_conv (pe_not ha) fun σ H Q h => ?_
  obtain ⟨C, M, env, k, x, R, h, hk, hx⟩ := h
  refine ⟨C, M, env, _, x, R, h, fun d e1 v H1 M1 h1 R1 k1 g1 r1 => ?_, hx⟩
  obtain ⟨b, rfl, h1⟩ := h1
  have r1 : v = .bl b := r1
  exact ⟨b, r1, hk _ e1 _ H1 M1 h1 R1 k1 g1 rfl⟩
theorem de_if {t : DT} (hc : PT X c (upT X.K W t)) (ha : PE X a (up X.K W ta)) (hb : PE X b (up X.K W tb)) : PE X (.IfExp c a b pos) (up X.K W (dIf t ta tb)) := by
  refine pe_conv (pe_ifExp hc ha hb) fun σ H Q h => ?_
  obtain ⟨C, M, env, k, x, R, h, hk, hx⟩ := h
  refine ⟨C, M, env, _, x, R, h, fun b e1 H1 M1 h1 R1 k1 g1 => ?_, hx⟩
  cases b with
  | true =>
    rw [if_pos rfl] at h1 ⊢
    exact ⟨C, M1, e1, k, x, R1, h1, fun b e2 v H2 M2 h2 R2 k2 g2 r2 => hk b e2 v H2 M2 h2 R2 (k1.trans g1 k2) (Grow.trans k1 g1 g2) r2, fun e env' H' M' xe R' k' g' => hx e env' H' M' xe R' (k1.trans g1 k') (Grow.trans k1 g1 g')⟩
  | false =>
    rw [if_neg Bool.false_ne_true] at h1 ⊢
    exact ⟨C, M1, e1, k, x, R1, h1, fun b e2 v H2 M2 h2 R2 k2 g2 r2 => hk b e2 v H2 M2 h2 R2 (k1.trans g1 k2) (Grow.trans k1 g1 g2) r2, fun e env' H' M' xe R' k' g' => hx e env' H' M' xe R' (k1.trans g1 k') (Grow.trans k1 g1 g')⟩
theorem sim_chain {K : PySem.W.Frag} {r r' : R2} {f g : D → D → Option D} (B : Bin K r f) (B' : Bin K r' g) {σ : L2.St} {H : Hp} {Q : VK} (h : up K W (dChain f g ta tb tc) σ H Q) : tChain r r' (up K W ta) (up K W tb) (up K W tc) σ H Q := by
  obtain ⟨C, M, env, k, x, R, h, hk, hx⟩ := h
  refine ⟨C, M, env, _, x, R, h, fun a e1 va H1 M1 h1 R1 k1 g1 r1 => ?_, hx⟩
  refine ⟨C, M1, e1, _, x, R1, h1, fun b e2 vb H2 M2 h2 R2 k2 g2 r2 => ?_, fun e env' H' M' xe R' k' g' => hx e env' H' M' xe R' (k1.trans g1 k') (Grow.trans k1 g1 g')⟩
  have k12 := k1.trans g1 k2
  have g12 := Grow.trans k1 g1 g2
  obtain ⟨z, hd, h2⟩ := h2
  refine B.ok R2.avt (k2.rep g2 r1) r2 hd fun v H3 s3 r3 => ?_
  have r3 : v = .bl z := r3
  refine ⟨z, r3, ?_⟩
  have R3 := R2.same s3
  have k3 : Keep M H H3 := k12.trans g12 (.same s3)
  have r2' := (Keep.same (M := M2) s3).rep (Grow.refl _ _) r2
  cases z with
  | true =>
    rw [if_pos rfl] at h2 ⊢
    refine ⟨C, M2, e2, _, x, R3, h2, fun c e4 vc H4 M4 h4 R4 k4 g4 r4 => ?_, fun e env' H' M' xe R' k' g' => hx e env' H' M' xe R' (k3.trans g12 k') (Grow.trans k3 g12 g')⟩
    obtain ⟨d, hd, kd⟩ := h4
    exact B'.ok R4.avt (k4.rep g4 r2') r4 hd (R4.fin (k3.trans g12 k4) (Grow.trans k3 g12 g4) kd hk)
  | false =>
    rw [if_neg Bool.false_ne_true] at h2 ⊢
    exact hk _ e2 _ H3 M2 h2 R3 k3 g12 rfl
theorem de_chain {op op' : CmpOp} {r r' : R2} {f g : D → D → Option D} (ho : OpR X (compareOp op) r) (ho' : OpR X (compareOp op') r') (B : Bin X.K r f) (B' : Bin X.K r' g) (ha : PE X a (up X.K W ta)) (hb : PE X b (up X.K W tb)) (hc : PE X c (up X.K W tc))
    (hm : lastMarks [op, op'] [b, c] = false := by with_unfolding_all rfl) : PE X (.Compare a [op, op'] [b, c] pos) (up X.K W (dChain f g ta tb tc)) :=
  pe_conv (pe_chain ho ho' ha hb hc hm) fun _ _ _ => sim_chain B B'
theorem dt_chain {op op' : CmpOp} {r r' : R2} {f g : D → D → Option D} (ho : OpR X (compareOp op) r) (ho' : OpR X (compareOp op') r') (B : Bin X.K r f) (B' : Bin X.K r' g) (ha : PE X a (up X.K W ta)) (hb : PE X b (up X.K W tb)) (hc : PE X c (up X.K W tc))
    (hm : lastMarks [op, op'] [b, c] = false := by with_unfolding_all rfl) : PT X (.Compare a [op, op'] [b, c] pos) (upT X.K W (dtB (dChain f g ta tb tc))) := by
  refine pt_conv (pt_chain ho ho' ha hb hc hm) fun σ H Q h => ?_
  obtain ⟨C, M, env, k, x, R, h, hk, hx⟩ := h
  refine sim_chain B B' ⟨C, M, env, _, x, R, h, fun a e1 va H1 M1 h1 R1 k1 g1 r1 => ?_, hx⟩
  obtain ⟨b, rfl, kd⟩ := h1
  have r1 : va = .bl b := r1
  exact ⟨b, r1, hk b e1 H1 M1 kd R1 k1 g1⟩
end
end FX

set_option Elab.async false
set_option linter.all false
set_option maxRecDepth 100000
set_option maxHeartbeats 1000000
/-! FxC: slots stored, frozen, taken, written; statements; while, for -/
namespace FX
open PySem PySem.Spec PyProof.Rows L2
section
variable {K : PySem.W.Frag} {W : HW} {C : Ctx} {M : AS} {env : Env} {σ : L2.St} {H : Hp} {Q : VK}

theorem get_set_cases {α : Type} {l : List α} {i j : Nat} {x y : α} (h : (l.set i x)[j]? = some y) : (i = j ∧ y = x ∧ i < l.length) ∨ (i ≠ j ∧ l[j]? = some y) := by
  by_cases e : i = j
  · subst e
    by_cases hl : i < l.length
    · rw [List.getElem?_set_self hl] at h
      exact .inl ⟨rfl, (Option.some.inj h).symm, hl⟩
    · rw [List.getElem?_eq_none (by simpa using hl)] at h
      cases h
  · rw [List.getElem?_set_ne e] at h
    exact .inr ⟨e, h⟩
theorem set_get {α : Type} {l : List α} {i : Nat} {x : α} (h : i < l.length) : (l.set i x)[i]? = some x := List.getElem?_set_self h

/-- a slot gets plain data -/
theorem Rel.storeF {i : Nat} {d : D} {v : V} (R : Rel K C M env σ H) (r : Rep K (fun a => C.G a ∨ M a) H d v) : Rel K C M (env.set i (.frz d)) (σ.set i (some v)) H := by
  obtain ⟨adr, ha, hs⟩ := R.sl
  refine ⟨R.gm, R.gt, R.mm, R.bh, by rw [List.length_set, List.length_set]; exact R.len, adr, fun j l s t e1 e2 m1 m2 e => ?_, fun j s e => ?_⟩
  · rcases get_set_cases e1 with ⟨_, rfl, _⟩ | ⟨_, e1⟩
    · cases m1
    · rcases get_set_cases e2 with ⟨_, rfl, _⟩ | ⟨_, e2⟩
      · cases m2
      · exact ha j l s t e1 e2 m1 m2 e
  · rcases get_set_cases e with ⟨rfl, rfl, hl⟩ | ⟨ne, e⟩
    · exact ⟨v, set_get (by rw [← R.len]; exact hl), r⟩
    · have q := hs j s e
      have hσ : (σ.set i (some v))[j]? = σ[j]? := List.getElem?_set_ne ne
      cases s with
      | no => exact True.intro
      | frz d => obtain ⟨v, h1, h2⟩ := q; exact ⟨v, hσ.trans h1, h2⟩
      | own d => obtain ⟨v, h1, h2⟩ := q; exact ⟨v, hσ.trans h1, h2⟩
      | par d => obtain ⟨h1, h2⟩ := q; exact ⟨hσ.trans h1, h2⟩
/-- a slot gets a new mutable thing -/
theorem Rel.storeO {i : Nat} {d : D} {v : V} {p : Addr} (R : Rel K (C.add p) M env σ H) (c : Cont K (fun a => (C.add p).G a ∨ M a) H p d v) (nb : ¬ C.B p) (ng : ¬ C.G p) : Rel K C (fun a => M a ∨ a = p) (env.set i (.own d)) (σ.set i (some v)) H := by
  obtain ⟨adr, ha, hs⟩ := R.sl
  have nm : ¬ M p := fun z => R.gm p (.inr rfl) z
  have av : ∀ a, H a ≠ none → (C.G a ∨ (M a ∨ a = p)) → ((C.add p).G a ∨ M a) := fun a _ z => by
    rcases z with z | z | z
    · exact .inl (.inl z)
    · exact .inr z
    · exact .inl (.inr z)
  refine ⟨fun a g z => z.elim (R.gm a (.inl g)) fun z => ng (z ▸ g), fun a g => R.gt a (.inl g), fun a z => z.elim (R.mm a) fun z => z ▸ c.mut, R.bh, by rw [List.length_set, List.length_set]; exact R.len, fun j => if j = i then p else adr j, fun j l s t e1 e2 m1 m2 e => ?_, fun j s e => ?_⟩
  · have other : ∀ {j s}, env[j]? = some s → s.mine = true → adr j ≠ p := fun {j s} e m z => by
      have q := hs j s e
      cases s with
      | no => cases m
      | frz d => cases m
      | own d => obtain ⟨v, h1, h2, h3⟩ := q; exact nm (z ▸ h2)
      | par d => obtain ⟨h1, h2, h3⟩ := q; exact nm (z ▸ h2)
    rcases get_set_cases e1 with ⟨rfl, rfl, _⟩ | ⟨n1, e1⟩
    · rcases get_set_cases e2 with ⟨e3, _, _⟩ | ⟨n2, e2⟩
      · exact e3
      · simp only [if_true, Ne.symm n2, if_false] at e
        exact absurd e.symm (other e2 m2)
    · rcases get_set_cases e2 with ⟨rfl, rfl, _⟩ | ⟨n2, e2⟩
      · simp only [if_true, Ne.symm n1, if_false] at e
        exact absurd e (other e1 m1)
      · simp only [Ne.symm n1, Ne.symm n2, if_false] at e
        exact ha j l s t e1 e2 m1 m2 e
  · rcases get_set_cases e with ⟨rfl, rfl, hl⟩ | ⟨ne, e⟩
    · refine ⟨v, set_get (by rw [← R.len]; exact hl), ?_⟩
      show (M (if i = i then p else adr i) ∨ (if i = i then p else adr i) = p) ∧ ¬ C.B (if i = i then p else adr i) ∧ Cont K _ H (if i = i then p else adr i) d v
      rw [if_pos rfl]
      exact ⟨.inr rfl, nb, c.mono (fun _ e => e) (fun _ _ e _ => e) av⟩
    · have q := hs j s e
      have hσ : (σ.set i (some v))[j]? = σ[j]? := List.getElem?_set_ne ne
      have hj : (if j = i then p else adr j) = adr j := if_neg (Ne.symm ne)
      cases s with
      | no => exact True.intro
      | frz d => obtain ⟨v, h1, h2⟩ := q; exact ⟨v, hσ.trans h1, Rep.mono (fun _ _ e _ => e) av d v h2⟩
      | own d =>
        obtain ⟨v, h1, h2, h3, h4⟩ := q
        refine ⟨v, hσ.trans h1, ?_⟩
        show (M (if j = i then p else adr j) ∨ _) ∧ ¬ C.B (if j = i then p else adr j) ∧ Cont K _ H (if j = i then p else adr j) d v
        rw [hj]
        exact ⟨.inl h2, h3, h4.mono (fun _ e => e) (fun _ _ e _ => e) av⟩
      | par d =>
        obtain ⟨h1, h2, h4⟩ := q
        refine ⟨hσ.trans h1, ?_⟩
        show (M (if j = i then p else adr j) ∨ _) ∧ Cont K _ H (if j = i then p else adr j) d (C.P j)
        rw [hj]
        exact ⟨.inl h2, h4.mono (fun _ e => e) (fun _ _ e _ => e) av⟩
/-- a mutable thing of ours is given away -/
theorem Rel.take {i : Nat} {d : D} (R : Rel K C M env σ H) (e : env[i]? = some (.own d)) :
    ∃ p v, σ[i]? = some (some v) ∧ M p ∧ ¬ C.B p ∧ Cont K (fun a => C.G a ∨ M a) H p d v ∧ Rel K C (fun a => M a ∧ a ≠ p) (env.set i .no) σ H := by
  obtain ⟨adr, ha, hs⟩ := R.sl
  obtain ⟨v, h1, h2, h3, h4⟩ := hs i _ e
  refine ⟨adr i, v, h1, h2, h3, h4, fun a g z => R.gm a g z.1, R.gt, fun a z => R.mm a z.1, R.bh, by rw [List.length_set]; exact R.len, adr, fun j l s t e1 e2 m1 m2 e => ?_, fun j s e' => ?_⟩
  · rcases get_set_cases e1 with ⟨_, rfl, _⟩ | ⟨_, e1⟩
    · cases m1
    · rcases get_set_cases e2 with ⟨_, rfl, _⟩ | ⟨_, e2⟩
      · cases m2
      · exact ha j l s t e1 e2 m1 m2 e
  · have av : ∀ a, H a ≠ none → (C.G a ∨ (M a ∧ a ≠ adr i)) → (C.G a ∨ M a) := fun a _ z => z.elim .inl fun z => .inr z.1
    rcases get_set_cases e' with ⟨rfl, rfl, hl⟩ | ⟨ne, e'⟩
    · exact True.intro
    · have q := hs j s e'
      cases s with
      | no => exact True.intro
      | frz d => obtain ⟨v, h1, h2⟩ := q; exact ⟨v, h1, Rep.mono (fun _ _ e _ => e) av d v h2⟩
      | own d =>
        obtain ⟨v, h1, h2, h3, h4⟩ := q
        exact ⟨v, h1, ⟨h2, fun z => ne (ha j i _ _ e' e rfl rfl z).symm⟩, h3, h4.mono (fun _ e => e) (fun _ _ e _ => e) av⟩
      | par d =>
        obtain ⟨h1, h2, h4⟩ := q
        exact ⟨h1, ⟨h2, fun z => ne (ha j i _ _ e' e rfl rfl z).symm⟩, h4.mono (fun _ e => e) (fun _ _ e _ => e) av⟩
theorem take_rep {d : D} {v : V} {p : Addr} (gm : ∀ a, C.G a → ¬ M a) (hm : M p) (c : Cont K (fun a => C.G a ∨ M a) H p d v) : Rep K (fun a => C.G a ∨ (M a ∧ a ≠ p)) H d v :=
  c.freeze (fun a _ z => z.elim .inl fun z => .inr z.1) fun z => z.elim (fun z => gm p z hm) fun z => z.2 rfl
/-- .. frozen where it is -/
theorem Rel.freeze {i : Nat} {d : D} (R : Rel K C M env σ H) (e : env[i]? = some (.own d)) : ∃ M', Rel K C M' (env.set i (.frz d)) σ H ∧ Grow M H M' := by
  obtain ⟨p, v, h1, h2, h3, h4, R'⟩ := R.take e
  refine ⟨fun a => M a ∧ a ≠ p, ?_, fun a z => .inl z.1⟩
  have R2 := R'.storeF (i := i) (take_rep R.gm h2 h4)
  have hl : i < σ.length := (List.getElem?_eq_some_iff.mp h1).1
  have e1 : (env.set i Sl.no).set i (.frz d) = env.set i (.frz d) := by rw [List.set_set]
  have e2 : σ.set i (some v) = σ := by
    apply List.ext_getElem?
    intro j
    by_cases hj : i = j
    · subst hj; rw [set_get hl, h1]
    · rw [List.getElem?_set_ne hj]
  rw [e1, e2] at R2
  exact R2
def Sl.put : Sl → D → Sl
  | .own _, d => .own d
  | .par _, d => .par d
  | s, _ => s
/-- a mutable thing of ours (or handed in) is changed -/
theorem Rel.change {i : Nat} {s : Sl} (R : Rel K C M env σ H) (e : env[i]? = some s) (hm : s.mine = true) :
    ∃ p d v, σ[i]? = some (some v) ∧ (s = .own d ∨ s = .par d) ∧ M p ∧ Cont K (fun a => C.G a ∨ M a) H p d v ∧
      ∀ (H' : Hp) d', (∀ a, a ≠ p → H' a = H a) → Mut (H' p) → Cont K (fun a => C.G a ∨ M a) H' p d' v → Rel K C M (env.set i (s.put d')) σ H' ∧ Keep M H H' := by
  obtain ⟨adr, ha, hs⟩ := R.sl
  have main : ∀ d v, (s = .own d ∨ s = .par d) → σ[i]? = some (some v) → M (adr i) → Cont K (fun a => C.G a ∨ M a) H (adr i) d v → (∀ d', s = .own d' → ¬ C.B (adr i)) → (∀ d', s = .par d' → v = C.P i) →
      ∀ (H' : Hp) d', (∀ a, a ≠ adr i → H' a = H a) → Mut (H' (adr i)) → Cont K (fun a => C.G a ∨ M a) H' (adr i) d' v → Rel K C M (env.set i (s.put d')) σ H' ∧ Keep M H H' := by
    intro d v hsd h1 h2 h4 hB hP H' d' hk mu c
    have kp : ∀ a o, H a = some o → ¬ (C.G a ∨ M a) → H' a = some o := fun a o e n => by rw [hk a fun z => n (.inr (z ▸ h2))]; exact e
    have th : ∀ a, H a ≠ none → H' a ≠ none := fun a n => by
      by_cases z : a = adr i
      · subst z; intro q; rw [q] at mu; exact mu
      · rw [hk a z]; exact n
    refine ⟨⟨R.gm, fun a g => by rw [hk a fun z => R.gm a g (z ▸ h2)]; exact R.gt a g, fun a m => ?_, fun a b => th a (R.bh a b), by rw [List.length_set]; exact R.len, adr, fun j l s' t e1 e2 m1 m2 q => ?_, fun j s' e' => ?_⟩, ⟨fun a o e n => by rw [hk a fun z => n (z ▸ h2)]; exact e, th⟩⟩
    · by_cases z : a = adr i
      · subst z; exact mu
      · rw [hk a z]; exact R.mm a m
    · have back : ∀ {j : Nat} {s' : Sl}, (env.set i (s.put d'))[j]? = some s' → s'.mine = true → ∃ s'', env[j]? = some s'' ∧ s''.mine = true := fun {j s'} e' m => by
        rcases get_set_cases e' with ⟨rfl, _, _⟩ | ⟨_, e'⟩
        · exact ⟨s, e, hm⟩
        · exact ⟨s', e', m⟩
      obtain ⟨s1, q1, n1⟩ := back e1 m1
      obtain ⟨s2, q2, n2⟩ := back e2 m2
      exact ha j l s1 s2 q1 q2 n1 n2 q
    · have av : ∀ a, H a ≠ none → (C.G a ∨ M a) → (C.G a ∨ M a) := fun _ _ z => z
      rcases get_set_cases e' with ⟨rfl, rfl, hl⟩ | ⟨ne, e'⟩
      · rcases hsd with rfl | rfl
        · exact ⟨v, h1, h2, hB d rfl, c⟩
        · have := hP d rfl
          subst this
          exact ⟨h1, h2, c⟩
      · have q := hs j s' e'
        have nadr : s'.mine = true → adr j ≠ adr i := fun m z => ne (ha j i s' s e' e m hm z).symm
        cases s' with
        | no => exact True.intro
        | frz d => obtain ⟨v, h1, h2⟩ := q; exact ⟨v, h1, Rep.mono kp av d v h2⟩
        | own d => obtain ⟨v, h1, h2, h3, h4⟩ := q; exact ⟨v, h1, h2, h3, h4.mono (fun o e => by rw [hk _ (nadr rfl)]; exact e) kp av⟩
        | par d => obtain ⟨h1, h2, h4⟩ := q; exact ⟨h1, h2, h4.mono (fun o e => by rw [hk _ (nadr rfl)]; exact e) kp av⟩
  have q := hs i s e
  cases s with
  | no => cases hm
  | frz d => cases hm
  | own d =>
    obtain ⟨v, h1, h2, h3, h4⟩ := q
    exact ⟨adr i, d, v, h1, .inl rfl, h2, h4, main d v (.inl rfl) h1 h2 h4 (fun _ _ => h3) (fun _ z => nomatch z)⟩
  | par d =>
    obtain ⟨h1, h2, h4⟩ := q
    exact ⟨adr i, d, C.P i, h1, .inr rfl, h2, h4, main d (C.P i) (.inr rfl) h1 h2 h4 (fun _ z => nomatch z) (fun _ _ => rfl)⟩
/-- all slots seen as plain data: nothing can be changed -/
def Sl.seen : Sl → Sl
  | .own d => .frz d
  | .par d => .frz d
  | s => s
theorem Rel.seen (R : Rel K C M env σ H) : Rel K C (fun _ => False) (env.map Sl.seen) σ H := by
  obtain ⟨adr, ha, hs⟩ := R.sl
  refine ⟨fun _ _ z => z, R.gt, fun _ z => z.elim, R.bh, by rw [List.length_map]; exact R.len, adr, fun j l s t e1 e2 m1 m2 e => ?_, fun j s e => ?_⟩
  · rw [List.getElem?_map] at e1
    cases q : env[j]? with
    | none => rw [q] at e1; cases e1
    | some s' =>
      rw [q] at e1
      have e1 : s'.seen = s := Option.some.inj e1
      subst e1
      cases s' <;> cases m1
  · rw [List.getElem?_map] at e
    cases q : env[j]? with
    | none => rw [q] at e; cases e
    | some s' =>
      rw [q] at e
      have e1 : s'.seen = s := Option.some.inj e
      subst e1
      have z := hs j s' q
      have av : ∀ a, H a ≠ none → (C.G a ∨ False) → (C.G a ∨ M a) := fun a _ z => z.elim .inl False.elim
      cases s' with
      | no => exact True.intro
      | frz d => obtain ⟨v, h1, h2⟩ := z; exact ⟨v, h1, Rep.mono (fun _ _ e _ => e) av d v h2⟩
      | own d => obtain ⟨v, h1, h2, h3, h4⟩ := z; exact ⟨v, h1, h4.freeze av fun z => z.elim (fun z => R.gm _ z h2) id⟩
      | par d => obtain ⟨h1, h2, h4⟩ := z; exact ⟨C.P j, h1, h4.freeze av fun z => z.elim (fun z => R.gm _ z h2) id⟩
theorem Keep.toSame {H H' : Hp} (k : Keep (fun _ => False) H H') : Same H H' := fun a o e => k.kp a o e id
end

/-! ### expressions that read the slots as they are, or give one away -/
/-- evaluated with all slots read only; what comes is immutable -/
def dPur (t : DE) : DE := fun env k _ => t (env.map Sl.seen) (fun d _ => imm d = true ∧ k d env) (fun _ _ => False)
def immL : D → Bool
  | .lst ds => imms ds
  | .dI _ => false
  | .dT _ => false
  | _ => false
/-- .. what comes is a new list of immutable things -/
def dPurF (t : DE) : DE := fun env k _ => t (env.map Sl.seen) (fun d _ => immL d = true ∧ k d env) (fun _ _ => False)
def dtPur (t : DT) : DT := fun env k _ => t (env.map Sl.seen) (fun b _ => k b env) (fun _ _ => False)
def dTake (i : Nat) : DE := fun env k _ => ∃ d, env[i]? = some (.own d) ∧ k d (env.set i .no)
section
variable {X : Cx} {W : HW} {e : Expr} {pos : Pos} {t : DE}
theorem de_pur (h : PE X e (up X.K W t)) : PE X e (up X.K W (dPur t)) := by
  refine pe_conv h fun σ H Q h => ?_
  obtain ⟨C, M, env, k, x, R, h, hk, hx⟩ := h
  refine ⟨C, _, _, _, _, R.seen, h, fun d e1 v H1 M1 h1 R1 k1 g1 r1 => ?_, fun e env' H' M' xe _ _ _ => xe.elim⟩
  obtain ⟨i, kd⟩ := h1
  have R2 := R.same k1.toSame
  refine hk d env v H1 M kd R2 (.same k1.toSame) (.refl _ _) (Rep.imm (fun a z => ?_) d v i r1)
  rcases z with z | z
  · exact .inl (.inl z)
  · exact .inr (R2.mm a z)
theorem dt_pur {t : DT} (h : PT X e (upT X.K W t)) : PT X e (upT X.K W (dtPur t)) := by
  refine pt_conv h fun σ H Q h => ?_
  obtain ⟨C, M, env, k, x, R, h, hk, hx⟩ := h
  refine ⟨C, _, _, _, _, R.seen, h, fun d e1 H1 M1 h1 R1 k1 g1 => ?_, fun e env' H' M' xe _ _ _ => xe.elim⟩
  exact hk d env H1 M h1 (R.same k1.toSame) (.same k1.toSame) (.refl _ _)
theorem de_purF (h : PE X e (upF X.K W t)) : PE X e (upF X.K W (dPurF t)) := by
  refine pe_conv h fun σ H Q h => ?_
  obtain ⟨C, M, env, k, x, R, h, hk, hx⟩ := h
  refine ⟨C, _, _, _, _, R.seen, h, fun d e1 p v H1 M1 h1 R1 k1 g1 hp c => ?_, fun e env' H' M' xe _ _ _ => xe.elim⟩
  obtain ⟨i, kd⟩ := h1
  have R2 := R.add k1.toSame hp c.mut
  refine hk d env p v H1 M kd R2 (.same k1.toSame) (.refl _ _) hp ?_
  cases d with
  | lst ds =>
    obtain ⟨e, vs, h, r⟩ := c
    refine ⟨e, vs, h, Reps.imm (fun a z => ?_) ds vs i r⟩
    rcases z with z | z
    · exact .inl (.inl z)
    · exact .inr (R2.mm a z)
  | non | bl _ | int _ | str _ | tup _ | dI _ | dT _ | scr _ | obj _ _ => cases i
theorem de_take (i : Nat) {x : Str} (hN : X.N[i]? = some x := by rfl) (hv : Vis X.env.scope x := by first | exact Or.inl rfl | exact Or.inr (Or.inl rfl) | exact Or.inr (Or.inr rfl)) (hd : (x == ("__debug__" : Str)) = false := by decide)
    (hcd : (x == ("__classdict__" : Str)) = false := by decide) : PE X (.Name x pos) (up X.K W (dTake i)) := by
  refine pe_conv (pe_var hN hv hd hcd) fun σ H Q h => ?_
  obtain ⟨C, M, env, k, x, R, ⟨d, he, kd⟩, hk, hx⟩ := h
  obtain ⟨p, v, h1, h2, h3, h4, R'⟩ := R.take he
  exact ⟨v, h1, hk d _ v H _ kd R' (.refl _ _) (fun a z => .inl z.1) (take_rep R.gm h2 h4)⟩
end

/-! ### statements -/
def sNext : DS := fun k env => k.nx env
def sSeq (t u : DS) : DS := fun k env => t { k with nx := u k } env
def sRet (t : DE) : DS := fun k env => t env k.rt k.ex
def sRetN : DS := fun k env => k.rt .non env
def sRetOwn (i : Nat) : DS := fun k env => ∃ d, env[i]? = some (.own d) ∧ k.rt d (env.set i .no)
def sAsg (i : Nat) (t : DE) : DS := fun k env => t env (fun d e => k.nx (e.set i (.frz d))) k.ex
def sAsgO (i : Nat) (t : DE) : DS := fun k env => t env (fun d e => k.nx (e.set i (.own d))) k.ex
def sExpr (t : DE) : DS := fun k env => t env (fun _ e => k.nx e) k.ex
def sIf (c : DT) (t u : DS) : DS := fun k env => c env (fun b e => if b = true then t k e else u k e) k.ex
def sNever : DS := fun _ _ => False
def sBreak : DS := fun k env => k.bk env
def sCont : DS := fun k env => k.ct env
/-- a slot's mutable thing will not be changed any more -/
def sFreeze (i : Nat) (t : DS) : DS := fun k env => ∃ d, env[i]? = some (.own d) ∧ t k (env.set i (.frz d))
section
variable {X : Cx} {W : HW} {fr : Bool} {e c : Expr} {st : Stmt} {rest a b : List Stmt} {pos : Pos} {te : DE} {t u : DS}
theorem ds_nil : PSs X [] (upS X.K W fr sNext) := by
  refine pss_conv pss_nil fun D σ H h => ?_
  obtain ⟨C, M, env, k, R, h, hn, _⟩ := h
  exact hn env σ H M h R (.refl _ _) (.refl _ _)
theorem ds_pass : PS X (.Pass pos) (upS X.K W fr sNext) := by
  refine ps_conv ps_pass fun D σ H h => ?_
  obtain ⟨C, M, env, k, R, h, hn, _⟩ := h
  exact hn env σ H M h R (.refl _ _) (.refl _ _)
theorem ds_break : PS X (.Break pos) (upS X.K W fr sBreak) := by
  refine ps_conv ps_break fun D σ H h => ?_
  obtain ⟨C, M, env, k, R, h, _, _, _, hb, _⟩ := h
  exact hb env σ H M h R (.refl _ _) (.refl _ _)
theorem ds_continue : PS X (.Continue pos) (upS X.K W fr sCont) := by
  refine ps_conv ps_continue fun D σ H h => ?_
  obtain ⟨C, M, env, k, R, h, _, _, _, _, hc⟩ := h
  exact hc env σ H M h R (.refl _ _) (.refl _ _)
/-- from a state further on -/
theorem upS.on {K : PySem.W.Frag} {C : Ctx} {M M1 : AS} {H H1 : Hp} {k : DK} {S : Ends} {t : DS} {env1 : Env} {σ1 : L2.St} (k1 : Keep M H H1) (g1 : Grow M H M1) (R1 : Rel K C M1 env1 σ1 H1) (h1 : t k env1)
    (hn : ∀ env' σ' H' M', k.nx env' → Rel K C M' env' σ' H' → Keep M H H' → Grow M H M' → S.nx σ' H')
    (hh : (∀ d env' v σ' H' M', k.rt d env' → Rel K C M' env' σ' H' → Keep M H H' → Grow M H M' →
      (if fr = true then ∃ p, ¬ C.B p ∧ ¬ C.G p ∧ ¬ M' p ∧ Cont K (fun a => (C.G a ∨ M' a) ∨ a = p) H' p d v else Rep K (fun a => C.G a ∨ M' a) H' d v) → S.rt v H') ∧
    (∀ e env' σ' H' M', k.ex e env' → Rel K C M' env' σ' H' → Keep M H H' → Grow M H M' → W e H') ∧
    (∀ env' σ' H' M', k.bk env' → Rel K C M' env' σ' H' → Keep M H H' → Grow M H M' → S.bk σ' H') ∧
    (∀ env' σ' H' M', k.ct env' → Rel K C M' env' σ' H' → Keep M H H' → Grow M H M' → S.ct σ' H')) : upS K W fr t S σ1 H1 := by
  obtain ⟨hr, hx, hb, hc⟩ := hh
  exact ⟨C, M1, env1, k, R1, h1, fun e s h m q r kk g => hn e s h m q r (k1.trans g1 kk) (Grow.trans k1 g1 g), fun d e v s h m q r kk g z => hr d e v s h m q r (k1.trans g1 kk) (Grow.trans k1 g1 g) z,
    fun y e s h m q r kk g => hx y e s h m q r (k1.trans g1 kk) (Grow.trans k1 g1 g), fun e s h m q r kk g => hb e s h m q r (k1.trans g1 kk) (Grow.trans k1 g1 g), fun e s h m q r kk g => hc e s h m q r (k1.trans g1 kk) (Grow.trans k1 g1 g)⟩
theorem ds_cons (h1 : PS X st (upS X.K W fr t)) (h2 : PSs X rest (upS X.K W fr u)) : PSs X (st :: rest) (upS X.K W fr (sSeq t u)) := by
  refine pss_conv (pss_cons h1 h2) fun D σ H h => ?_
  obtain ⟨C, M, env, k, R, h, hn, hh⟩ := h
  exact ⟨C, M, env, _, R, h, fun env' σ' H' M' q R' k' g' => upS.on k' g' R' q hn hh, hh⟩
theorem ds_one (h1 : PS X st (upS X.K W fr t)) : PSs X [st] (upS X.K W fr t) := pss_one h1
theorem ds_freeze (i : Nat) (h : PSs X rest (upS X.K W fr t)) : PSs X rest (upS X.K W fr (sFreeze i t)) := by
  refine pss_conv h fun D σ H h => ?_
  obtain ⟨C, M, env, k, R, ⟨d, he, h⟩, hn, hh⟩ := h
  obtain ⟨M', R', g⟩ := R.freeze he
  exact upS.on (.refl _ _) g R' h hn hh
theorem ds_freeze1 (i : Nat) (h : PS X st (upS X.K W fr t)) : PS X st (upS X.K W fr (sFreeze i t)) := by
  refine ps_conv h fun D σ H h => ?_
  obtain ⟨C, M, env, k, R, ⟨d, he, h⟩, hn, hh⟩ := h
  obtain ⟨M', R', g⟩ := R.freeze he
  exact upS.on (.refl _ _) g R' h hn hh
theorem ds_ret (h : PE X e (up X.K W te)) : PS X (.Return (some e) pos) (upS X.K W false (sRet te)) := by
  refine ps_conv (ps_ret h) fun D σ H h => ?_
  obtain ⟨C, M, env, k, R, h, hn, hr, hx, _⟩ := h
  exact ⟨C, M, env, _, _, R, h, fun d e1 v H1 M1 h1 R1 k1 g1 r1 => hr d e1 v σ H1 M1 h1 R1 k1 g1 r1, fun e env' H' M' xe R' k' g' => hx e env' σ H' M' xe R' k' g'⟩
theorem ds_retF (h : PE X e (upF X.K W te)) : PS X (.Return (some e) pos) (upS X.K W true (sRet te)) := by
  refine ps_conv (ps_ret h) fun D σ H h => ?_
  obtain ⟨C, M, env, k, R, h, hn, hr, hx, _⟩ := h
  refine ⟨C, M, env, _, _, R, h, fun d e1 p v H1 M1 h1 R1 k1 g1 hp c => hr d e1 v σ H1 M1 h1 R1.drop k1 g1 ⟨p, fun z => R.bh p z hp, fun z => R.gh p z hp, R1.gm p (.inr rfl), ?_⟩, fun e env' H' M' xe R' k' g' => hx e env' σ H' M' xe R' k' g'⟩
  exact c.mono (fun _ e => e) (fun _ _ e _ => e) fun a _ z => by
    rcases z with (z | z) | z
    · exact .inl (.inl z)
    · exact .inr z
    · exact .inl (.inr z)
theorem ds_retOwn (i : Nat) {x : Str} {p : Pos} (hN : X.N[i]? = some x := by rfl) (hv : Vis X.env.scope x := by first | exact Or.inl rfl | exact Or.inr (Or.inl rfl) | exact Or.inr (Or.inr rfl)) (hd : (x == ("__debug__" : Str)) = false := by decide)
    (hcd : (x == ("__classdict__" : Str)) = false := by decide) : PS X (.Return (some (.Name x p)) pos) (upS X.K W fr (sRetOwn i)) := by
  refine ps_conv (ps_ret (pe_var hN hv hd hcd)) fun D σ H h => ?_
  obtain ⟨C, M, env, k, R, ⟨d, he, h⟩, hn, hr, hx, _⟩ := h
  obtain ⟨p, v, h1, h2, h3, h4, R'⟩ := R.take he
  refine ⟨v, h1, hr d _ v σ H _ h R' (.refl _ _) (fun a z => .inl z.1) ?_⟩
  cases fr with
  | true =>
    rw [if_pos rfl]
    exact ⟨p, h3, fun z => R.gm p z h2, fun z => z.2 rfl, h4.mono (fun _ e => e) (fun _ _ e _ => e) fun a _ z => z.elim (fun z => z.elim .inl fun z => .inr z.1) fun z => .inr (z ▸ h2)⟩
  | false =>
    rw [if_neg Bool.false_ne_true]
    exact take_rep R.gm h2 h4
theorem ds_retN : PS X (.Return none pos) (upS X.K W false sRetN) := by
  refine ps_conv ps_retN fun D σ H h => ?_
  obtain ⟨C, M, env, k, R, h, hn, hr, hx, _⟩ := h
  exact hr .non env .non σ H M h R (.refl _ _) (.refl _ _) rfl
theorem ds_set {i : Nat} {x : Str} {p : Pos} (hN : X.N.Nodup) (hi : X.N[i]? = some x) (hx : Loc X.env.scope x) (he : PE X e (up X.K W te)) (hs : swapsWith e (some (.Name x p)) pos.line X.env = pure false := by rfl) (hf : X.fn x = true ∨ X.env.scope.names.lookup x = some .local := by first | exact .inl rfl | exact .inr rfl | assumption) :
    PS X (.Assign [.Name x p] e pos) (upS X.K W fr (sAsg i te)) := by
  refine ps_conv (ps_set hN hi hx he hs hf) fun D σ H h => ?_
  obtain ⟨C, M, env, k, R, h, hn, hr, hx, _⟩ := h
  exact ⟨C, M, env, _, _, R, h, fun d e1 v H1 M1 h1 R1 k1 g1 r1 => hn _ _ H1 M1 h1 (R1.storeF r1) k1 g1, fun e env' H' M' xe R' k' g' => hx e env' σ H' M' xe R' k' g'⟩
theorem grow_add {M M1 : AS} {H : Hp} {p : Addr} (g : Grow M H M1) (hp : H p = none) : Grow M H (fun a => M1 a ∨ a = p) := fun a z => z.elim (g a) fun z => .inr (z ▸ hp)
theorem ds_setO {i : Nat} {x : Str} {p : Pos} (hN : X.N.Nodup) (hi : X.N[i]? = some x) (hx : Loc X.env.scope x) (he : PE X e (upF X.K W te)) (hs : swapsWith e (some (.Name x p)) pos.line X.env = pure false := by rfl) (hf : X.fn x = true ∨ X.env.scope.names.lookup x = some .local := by first | exact .inl rfl | exact .inr rfl | assumption) :
    PS X (.Assign [.Name x p] e pos) (upS X.K W fr (sAsgO i te)) := by
  refine ps_conv (ps_set hN hi hx he hs hf) fun D σ H h => ?_
  obtain ⟨C, M, env, k, R, h, hn, hr, hx, _⟩ := h
  exact ⟨C, M, env, _, _, R, h, fun d e1 p v H1 M1 h1 R1 k1 g1 hp c => hn _ _ H1 _ h1 (R1.storeO c (fun z => R.bh p z hp) (fun z => R.gh p z hp)) k1 (grow_add g1 hp), fun e env' H' M' xe R' k' g' => hx e env' σ H' M' xe R' k' g'⟩
theorem ds_expr (he : PE X e (up X.K W te)) (hs : swapsWith e none pos.line X.env = pure false := by rfl) : PS X (.Expr e pos) (upS X.K W fr (sExpr te)) := by
  refine ps_conv (ps_expr he hs) fun D σ H h => ?_
  obtain ⟨C, M, env, k, R, h, hn, hr, hx, _⟩ := h
  exact ⟨C, M, env, _, _, R, h, fun d e1 v H1 M1 h1 R1 k1 g1 r1 => hn _ _ H1 M1 h1 R1 k1 g1, fun e env' H' M' xe R' k' g' => hx e env' σ H' M' xe R' k' g'⟩
theorem ds_if {tc : DT} (hc : PT X c (upT X.K W tc)) (ha : PSs X a (upS X.K W fr t)) (hb : PSs X b (upS X.K W fr u)) : PS X (.If c a b pos) (upS X.K W fr (sIf tc t u)) := by
  refine ps_conv (ps_if hc ha hb) fun D σ H h => ?_
  obtain ⟨C, M, env, k, R, h, hn, hr, hx, hbc⟩ := h
  refine ⟨C, M, env, _, _, R, h, fun d e1 H1 M1 h1 R1 k1 g1 => ?_, fun e env' H' M' xe R' k' g' => hx e env' σ H' M' xe R' k' g'⟩
  cases d with
  | true =>
    rw [if_pos rfl] at h1 ⊢
    exact upS.on k1 g1 R1 h1 hn ⟨hr, hx, hbc⟩
  | false =>
    rw [if_neg Bool.false_ne_true] at h1 ⊢
    exact upS.on k1 g1 R1 h1 hn ⟨hr, hx, hbc⟩
theorem ds_never : PS X st (upS X.K W fr sNever) := ps_conv ps_never fun D σ H h => by
  obtain ⟨C, M, env, k, R, h, _⟩ := h
  exact h
end

/-! ### loops -/
/-- the invariant, with a measure -/
def sWhile (c : DT) (tb : DS) : DS := fun k env => ∃ I : Nat → Env → Prop, (∃ m, I m env) ∧ ∀ m env, I m env →
  c env (fun b e => if b = true then tb { k with nx := fun e' => ∃ m', m' < m ∧ I m' e', ct := fun e' => ∃ m', m' < m ∧ I m' e', bk := k.nx } e else k.nx e) k.ex
section
variable {X : Cx} {W : HW} {fr : Bool} {e c : Expr} {st : Stmt} {body : List Stmt} {pos : Pos} {tc : DT} {tb : DS}
theorem ds_while (hp : PassesOwn (model X.prog X.w) X.A X.env X.xe) (hc : PT X c (upT X.K W tc)) (hb : PSs X body (upS X.K W fr tb)) : PS X (.While c body [] pos) (upS X.K W fr (sWhile tc tb)) := by
  refine ps_conv (ps_while hp hc hb) fun D σ H h => ?_
  obtain ⟨C, M, env, k, R, ⟨I, ⟨m0, i0⟩, turn⟩, hn, hr, hx, hbk, hct⟩ := h
  refine ⟨fun m σ' H' => ∃ M' env', Rel X.K C M' env' σ' H' ∧ Keep M H H' ∧ Grow M H M' ∧ I m env', ⟨m0, M, env, R, .refl _ _, .refl _ _, i0⟩, ?_⟩
  rintro m σ1 H1 ⟨M1, env1, R1, k1, g1, i1⟩
  refine ⟨C, M1, env1, _, _, R1, turn m env1 i1, fun b e2 H2 M2 h2 R2 k2 g2 => ?_, fun e env' H' M' xe R' k' g' => hx e env' _ H' M' xe R' (k1.trans g1 k') (Grow.trans k1 g1 g')⟩
  have k12 := k1.trans g1 k2
  have g12 := Grow.trans k1 g1 g2
  cases b with
  | true =>
    rw [if_pos rfl] at h2
    refine iteT ⟨fun σ' H' => ∃ m' M' env', m' < m ∧ Rel X.K C M' env' σ' H' ∧ Keep M H H' ∧ Grow M H M' ∧ I m' env', fun σ' H' ⟨m', M', env', hm, q⟩ => ⟨m', hm, M', env', q⟩, ?_⟩
    refine upS.on (k := { k with nx := fun e' => ∃ m', m' < m ∧ I m' e', ct := fun e' => ∃ m', m' < m ∧ I m' e', bk := k.nx }) k12 g12 R2 h2 (fun env' σ' H' M' ⟨m', hm, q⟩ R' k' g' => ⟨m', M', env', hm, R', k', g', q⟩) ⟨hr, hx, hn, fun env' σ' H' M' ⟨m', hm, q⟩ R' k' g' => ⟨m', M', env', hm, R', k', g', q⟩⟩
  | false =>
    rw [if_neg Bool.false_ne_true] at h2
    exact iteF (hn e2 σ1 H2 M2 h2 R2 k12 g12)
end
end FX

set_option Elab.async false
set_option linter.all false
set_option maxRecDepth 100000
set_option maxHeartbeats 1000000
/-! FxD: what is walked; targets; for; comprehensions -/
namespace FX
open PySem PySem.Spec PyProof.Rows L2

/-! ### what is walked -/
abbrev DI := DA
/-- J yields the items, as long as what they lean on stands -/
def ItOk (K : PySem.W.Frag) (Av0 : AS) (H0 : Hp) (J : It) (items : List D) : Prop :=
  ∀ i H Av, (∀ a o, H0 a = some o → ¬ Av0 a → H a = some o) → (∀ a, H0 a ≠ none → Av a → Av0 a) → AvT Av H →
    (∀ d, items[i]? = some d → J.go i H ∧ ∀ x H', J.yld i H x H' → Same H H' ∧ Rep K Av H' d x) ∧ (items.length ≤ i → J.stop i H)
def upI (K : PySem.W.Frag) (W : HW) (t : DI) : TI := fun σ H R => ∃ (C : Ctx) (M : AS) (env : Env) (k : List D → Env → Prop) (x : XW), Rel K C M env σ H ∧ t env k x ∧
  (∀ ds env' J H' M', k ds env' → Rel K C M' env' σ H' → Keep M H H' → Grow M H M' → ItOk K (fun a => C.G a ∨ M' a) H' J ds → R J H') ∧
  (∀ e env' H' M', x e env' → Rel K C M' env' σ H' → Keep M H H' → Grow M H M' → W e H')
theorem pi_conv {X : Cx} {tg e : Expr} {t t' : TI} (h : PI X tg e t) (c : ∀ σ H Q, t' σ H Q → t σ H Q) : PI X tg e t' := ⟨fun pins s σ H Q I q => h.run pins s σ H Q I (c σ H Q q)⟩
def itemsD : D → Option (List D)
  | .lst ds => some ds
  | .tup ds => some ds
  | .scr ns => some (ns.map .int)
  | _ => none
/-- the items of a list or tuple -/
def diSeq (t : DE) : DI := fun env k x => t env (fun d e => ∃ ds, itemsD d = some ds ∧ k ds e) x
def rangeL (lo hi : Int) : List D := (List.range (hi - lo).toNat).map fun i => D.int (lo + (i : Nat))
def diRng1 (t : DE) : DI := fun env k x => t env (fun d e => ∃ n, d = .int n ∧ (-1000000000 < n ∧ n < 1000000000) ∧ k (rangeL 0 n) e) x
def diRng2 (t u : DE) : DI := fun env k x => t env (fun d e => u e (fun d2 e2 => ∃ i j, d = .int i ∧ d2 = .int j ∧ (-1000000000 < i ∧ i < 1000000000 ∧ -1000000000 < j ∧ j < 1000000000) ∧ k (rangeL i j) e2) x) x
def zipD : List D → List D → List D
  | a :: as, b :: bs => .tup [a, b] :: zipD as bs
  | _, _ => []
theorem zipD_get : ∀ {as bs : List D} {i : Nat} {d : D}, (zipD as bs)[i]? = some d → ∃ a b, as[i]? = some a ∧ bs[i]? = some b ∧ d = .tup [a, b]
  | [], bs, i, d, h => by simp [zipD] at h
  | a :: as, [], i, d, h => by simp [zipD] at h
  | a :: as, b :: bs, 0, d, h => by simp [zipD] at h; exact ⟨a, b, rfl, rfl, h.symm⟩
  | a :: as, b :: bs, i + 1, d, h => by
    have h : (zipD as bs)[i]? = some d := by simpa [zipD] using h
    obtain ⟨x, y, h1, h2, h3⟩ := zipD_get h
    exact ⟨x, y, by simpa using h1, by simpa using h2, h3⟩
theorem zipD_length : ∀ (as bs : List D), (zipD as bs).length = min as.length bs.length
  | [], bs => by simp [zipD]
  | a :: as, [] => by simp [zipD]
  | a :: as, b :: bs => by simp [zipD, zipD_length as bs, Nat.add_min_add_right]
def isTupD : D → Bool
  | .tup _ => true
  | _ => false
/-- zip of two lists, of two tuples -/
def diZip (t u : DE) : DI := fun env k x => t env (fun d e => u e (fun d2 e2 => ∃ as bs, ((d = .lst as ∧ d2 = .lst bs) ∨ (d = .tup as ∧ d2 = .tup bs)) ∧ k (zipD as bs) e2) x) x
def enumD (ds : List D) : List D := (List.range ds.length).map fun i => .tup [.int (i : Nat), ds.getD i .non]
def diEnum (t : DE) : DI := fun env k x => t env (fun d e => ∃ ds, d = .lst ds ∧ k (enumD ds) e) x
def diRev (t : DE) : DI := fun env k x => t env (fun d e => ∃ ds, d = .lst ds ∧ k ds.reverse e) x

section
variable {K : PySem.W.Frag} {W : HW} {Av : AS} {H : Hp}
theorem itok_list {ds : List D} {a : Addr} (h : Rep K Av H (.lst ds) (.ref a)) : ItOk K Av H (Itl K a) ds := by
  intro i H' Av' hk ha av
  obtain ⟨b, vs, e, n, hb, r⟩ := Rep.mono hk ha _ _ h
  cases e
  refine ⟨fun d hd => ?_, fun hl => ⟨vs, SqL.of hb, by rw [r.length]; exact hl⟩⟩
  obtain ⟨v, hv, rv⟩ := r.get hd
  refine ⟨⟨vs, v, SqL.of hb, hv⟩, fun x H2 hy => ?_⟩
  obtain ⟨rfl, hy⟩ := hy
  have := hy vs (SqL.of hb)
  rw [hv] at this; cases this
  exact ⟨Same.refl _, rv⟩
theorem itok_tup {ds : List D} {a : Addr} (h : Rep K Av H (.tup ds) (.ref a)) : ItOk K Av H (Itt K a) ds := by
  intro i H' Av' hk ha av
  obtain ⟨b, vs, e, n, hb, r⟩ := Rep.mono hk ha _ _ h
  cases e
  refine ⟨fun d hd => ?_, fun hl => ⟨vs, SqT.of hb, by rw [r.length]; exact hl⟩⟩
  obtain ⟨v, hv, rv⟩ := r.get hd
  refine ⟨⟨vs, v, SqT.of hb, hv⟩, fun x H2 hy => ?_⟩
  obtain ⟨rfl, hy⟩ := hy
  have := hy vs (SqT.of hb)
  rw [hv] at this; cases this
  exact ⟨Same.refl _, rv⟩
theorem scr_seq {ns : List Int} {a : Addr} (h : Rep K Av H (.scr ns) (.ref a)) : SqL K H a (ns.map V.int) := by
  obtain ⟨b, e, h⟩ := h
  cases e
  rcases h with ⟨_, o, h⟩ | h
  · exact .inl (.inr ⟨o, h⟩)
  · exact .inr h
theorem itok_scr {ns : List Int} {a : Addr} (h : Rep K Av H (.scr ns) (.ref a)) : ItOk K Av H (Itl K a) (ns.map .int) := by
  intro i H' Av' hk ha av
  have hs := scr_seq (Rep.mono hk ha _ _ h)
  refine ⟨fun d hd => ?_, fun hl => ⟨_, hs, by simpa using hl⟩⟩
  rw [List.getElem?_map] at hd
  cases e : ns[i]? with
  | none => rw [e] at hd; cases hd
  | some n =>
    rw [e] at hd
    have hd : D.int n = d := Option.some.inj hd
    subst hd
    have hv : (ns.map V.int)[i]? = some (.int n) := by rw [List.getElem?_map, e]; rfl
    refine ⟨⟨_, _, hs, hv⟩, fun x H2 hy => ?_⟩
    obtain ⟨rfl, hy⟩ := hy
    have := hy _ hs
    rw [hv] at this; cases this
    exact ⟨Same.refl _, rfl⟩
theorem itok_rng (lo hi : Int) : ItOk K Av H (Itr lo (hi - lo).toNat) (rangeL lo hi) := by
  intro i H' Av' hk ha av
  unfold rangeL
  refine ⟨fun d hd => ?_, fun hl => by rw [List.length_map, List.length_range] at hl; exact hl⟩
  rw [List.getElem?_map] at hd
  cases e : (List.range (hi - lo).toNat)[i]? with
  | none => rw [e] at hd; cases hd
  | some n =>
    rw [e] at hd
    obtain ⟨hlt, e⟩ := List.getElem?_eq_some_iff.mp e
    have hlt' : i < (hi - lo).toNat := by simpa using hlt
    have : i = n := by simpa using e
    subst this
    have hd : D.int (lo + (i : Nat)) = d := Option.some.inj hd
    subst hd
    refine ⟨hlt', fun x H2 hy => ?_⟩
    obtain ⟨rfl, rfl⟩ := hy
    exact ⟨Same.refl _, rfl⟩
theorem pair_new {Av : AS} {H : Hp} {T : Addr} {a b : D} {x y : V} (av : AvT Av H) (hT : H T = none) (ra : Rep K Av H a x) (rb : Rep K Av H b y) : Rep K Av (upd H T (.tup [x, y])) (.tup [a, b]) (.ref T) :=
  ⟨T, _, rfl, av.new hT, upd_same, .cons (Rep.mono (fun a o e _ => same_new hT a o e) (fun _ _ z => z) _ _ ra) (.one (Rep.mono (fun a o e _ => same_new hT a o e) (fun _ _ z => z) _ _ rb))⟩
theorem itok_zipL {as bs : List D} {a b : Addr} (ha : Rep K Av H (.lst as) (.ref a)) (hb : Rep K Av H (.lst bs) (.ref b)) : ItOk K Av H (Itz K a b) (zipD as bs) := by
  intro i H' Av' hk hav av
  obtain ⟨_, vs, e, _, h1, r1⟩ := Rep.mono hk hav _ _ ha
  cases e
  obtain ⟨_, ws, e, _, h2, r2⟩ := Rep.mono hk hav _ _ hb
  cases e
  refine ⟨fun d hd => ?_, fun hl => ⟨vs, ws, SqL.of h1, SqL.of h2, ?_⟩⟩
  · obtain ⟨x, y, e1, e2, rfl⟩ := zipD_get hd
    obtain ⟨v, hv, rv⟩ := r1.get e1
    obtain ⟨w, hw, rw'⟩ := r2.get e2
    refine ⟨⟨vs, ws, v, w, SqL.of h1, SqL.of h2, hv, hw⟩, fun z H2 hy => ?_⟩
    obtain ⟨T, x', y', rfl, hT, rfl, f1, f2⟩ := hy
    have q1 := f1 _ (SqL.of h1)
    have q2 := f2 _ (SqL.of h2)
    rw [hv] at q1; rw [hw] at q2
    cases q1; cases q2
    exact ⟨same_new hT, pair_new av hT rv rw'⟩
  · rw [zipD_length] at hl
    rw [r1.length, r2.length]
    omega
theorem itok_zipT {as bs : List D} {a b : Addr} (ha : Rep K Av H (.tup as) (.ref a)) (hb : Rep K Av H (.tup bs) (.ref b)) : ItOk K Av H (RZ.ItzT K a b) (zipD as bs) := by
  intro i H' Av' hk hav av
  obtain ⟨_, vs, e, _, h1, r1⟩ := Rep.mono hk hav _ _ ha
  cases e
  obtain ⟨_, ws, e, _, h2, r2⟩ := Rep.mono hk hav _ _ hb
  cases e
  refine ⟨fun d hd => ?_, fun hl => ⟨vs, ws, SqT.of h1, SqT.of h2, ?_⟩⟩
  · obtain ⟨x, y, e1, e2, rfl⟩ := zipD_get hd
    obtain ⟨v, hv, rv⟩ := r1.get e1
    obtain ⟨w, hw, rw'⟩ := r2.get e2
    refine ⟨⟨vs, ws, v, w, SqT.of h1, SqT.of h2, hv, hw⟩, fun z H2 hy => ?_⟩
    obtain ⟨T, x', y', rfl, hT, rfl, f1, f2⟩ := hy
    have q1 := f1 _ (SqT.of h1)
    have q2 := f2 _ (SqT.of h2)
    rw [hv] at q1; rw [hw] at q2
    cases q1; cases q2
    exact ⟨same_new hT, pair_new av hT rv rw'⟩
  · rw [zipD_length] at hl
    rw [r1.length, r2.length]
    omega
theorem itok_enum {ds : List D} {a : Addr} (h : Rep K Av H (.lst ds) (.ref a)) : ItOk K Av H (Ite K a) (enumD ds) := by
  intro i H' Av' hk ha av
  obtain ⟨b, vs, e, n, hb, r⟩ := Rep.mono hk ha _ _ h
  cases e
  unfold enumD
  refine ⟨fun d hd => ?_, fun hl => ⟨vs, SqL.of hb, by rw [r.length]; simpa using hl⟩⟩
  rw [List.getElem?_map] at hd
  cases e : (List.range ds.length)[i]? with
  | none => rw [e] at hd; cases hd
  | some n =>
    rw [e] at hd
    obtain ⟨hlt, e⟩ := List.getElem?_eq_some_iff.mp e
    have hlt : i < ds.length := by simpa using hlt
    have : i = n := by simpa using e
    subst this
    have hd : D.tup [.int (i : Nat), ds.getD i .non] = d := Option.some.inj hd
    subst hd
    obtain ⟨v, hv, rv⟩ := r.get (List.getElem?_eq_getElem hlt)
    have eg : ds.getD i .non = ds[i] := by rw [List.getD_eq_getElem?_getD, List.getElem?_eq_getElem hlt]; rfl
    rw [eg]
    refine ⟨⟨vs, v, SqL.of hb, hv⟩, fun x H2 hy => ?_⟩
    obtain ⟨T, y, rfl, hT, rfl, f⟩ := hy
    have q := f _ (SqL.of hb)
    rw [hv] at q; cases q
    exact ⟨same_new hT, pair_new av hT rfl rv⟩
theorem itok_rev {ds : List D} {a : Addr} {n : Nat} (h : Rep K Av H (.lst ds) (.ref a)) (hn : n = ds.length) : ItOk K Av H (Itv K a n) ds.reverse := by
  subst hn
  intro i H' Av' hk ha av
  obtain ⟨b, vs, e, n, hb, r⟩ := Rep.mono hk ha _ _ h
  cases e
  refine ⟨fun d hd => ?_, fun hl => by rw [List.length_reverse] at hl; exact hl⟩
  have hlt : i < ds.length := by
    have := (List.getElem?_eq_some_iff.mp hd).1
    simpa using this
  rw [List.getElem?_reverse hlt] at hd
  obtain ⟨v, hv, rv⟩ := r.get hd
  refine ⟨⟨hlt, vs, v, SqL.of hb, hv⟩, fun x H2 hy => ?_⟩
  obtain ⟨rfl, hy⟩ := hy
  have := hy vs (SqL.of hb)
  rw [hv] at this; cases this
  exact ⟨Same.refl _, rv⟩
end

section
variable {X : Cx} {W : HW} {tg e e2 : Expr} {pos p : Pos} {t u : DE}
/-- a list or a tuple, walked -/
def iSeq (K : PySem.W.Frag) (tl : TE) : TI := fun σ H R => tl σ H fun x H1 => ∃ a, x = .ref a ∧ (((∃ xs, SqL K H1 a xs) ∧ R (Itl K a) H1) ∨ ((∃ xs, SqT K H1 a xs) ∧ R (Itt K a) H1))
theorem pi_seq {l : Expr} {tl : TE} (hl : PE X l tl) : PI X tg l (iSeq X.K tl) := by
  refine ⟨fun pins s σ H R I h => ?_⟩
  refine thn (hl.run pins s σ H _ I h) fun v s1 ⟨x, H1, I1, r1, q1⟩ => ?_
  obtain ⟨a, e, q1⟩ := q1
  subst e
  cases r1
  rcases q1 with ⟨⟨xs, hq⟩, q⟩ | ⟨⟨xs, hq⟩, q⟩
  · obtain ⟨its, rv, p, hz⟩ := I1.list hq
    refine wpAny_pyIter_list p.isList ?_
    refine ⟨s1.heap.objs.size, [s1.heap.objs.size], _, _, H1, rfl, I1.kept (t' := s1.toks) fun b o e => Heap.get?_push_of_some _ e, turn_list a _, ⟨_, Heap.get?_push_size _ rfl, rfl, rfl⟩, fun b hb => ?_, q⟩
    have e : b = s1.heap.objs.size := by simpa using hb
    subst e
    exact I1.fpOk (Nat.le_refl _) (I1.hok.fresh (Nat.le_refl _))
  · obtain ⟨its, rv, p, hz⟩ := I1.tuple hq
    refine wpAny_pyIter_tuple (show s1.heap.IsTuple a its.toArray from p) ?_
    refine ⟨s1.heap.objs.size, [s1.heap.objs.size], _, _, H1, rfl, I1.kept (t' := s1.toks) fun b o e => Heap.get?_push_of_some _ e, turn_tuple a _, ⟨_, Heap.get?_push_size _ rfl, rfl, rfl⟩, fun b hb => ?_, q⟩
    have e : b = s1.heap.objs.size := by simpa using hb
    subst e
    exact I1.fpOk (Nat.le_refl _) (I1.hok.fresh (Nat.le_refl _))
theorem di_seq (h : PE X e (up X.K W t)) : PI X tg e (upI X.K W (diSeq t)) := by
  refine pi_conv (pi_seq h) fun σ H Q h => ?_
  obtain ⟨C, M, env, k, x, R, h, hk, hx⟩ := h
  refine ⟨C, M, env, _, x, R, h, fun a e1 v H1 M1 h1 R1 k1 g1 r1 => ?_, hx⟩
  obtain ⟨ds, hd, kd⟩ := h1
  cases a with
  | lst as =>
    cases hd
    obtain ⟨a, vs, rfl, n, hb, r⟩ := id r1
    exact ⟨a, rfl, .inl ⟨⟨vs, SqL.of hb⟩, hk _ _ _ H1 M1 kd R1 k1 g1 (itok_list r1)⟩⟩
  | tup as =>
    cases hd
    obtain ⟨a, vs, rfl, n, hb, r⟩ := id r1
    exact ⟨a, rfl, .inr ⟨⟨vs, SqT.of hb⟩, hk _ _ _ H1 M1 kd R1 k1 g1 (itok_tup r1)⟩⟩
  | scr ns =>
    cases hd
    obtain ⟨a, rfl, hb⟩ := id r1
    exact ⟨a, rfl, .inl ⟨⟨_, scr_seq r1⟩, hk _ _ _ H1 M1 kd R1 k1 g1 (itok_scr r1)⟩⟩
  | non | bl _ | int _ | str _ | dI _ | dT _ | obj _ _ => cases hd
theorem di_rng1 (hg : Gl X "range") (hm : X.mg "range" = none) (h : PE X e (up X.K W t)) (hs : starEach [e] X.env = [(false, eval e X.env)] := by rfl) : PI X tg (.Call (.Name "range" p) [e] [] pos) (upI X.K W (diRng1 t)) := by
  refine pi_conv (pi_range1 hg hm (pa_cons h pa_nil hs) hs) fun σ H Q h => ?_
  obtain ⟨C, M, env, k, x, R, h, hk, hx⟩ := h
  refine ⟨C, M, env, _, x, R, h, fun a e1 v H1 M1 h1 R1 k1 g1 r1 => ?_, hx⟩
  obtain ⟨n, rfl, hn, kd⟩ := h1
  have r1 : v = .int n := r1
  subst r1
  refine ⟨n, rfl, by omega, by omega, ?_⟩
  have := itok_rng (K := X.K) (Av := fun a => C.G a ∨ M1 a) (H := H1) 0 n
  rw [Int.sub_zero] at this
  exact hk _ _ _ H1 M1 kd R1 k1 g1 this
theorem di_rng2 (hg : Gl X "range") (hm : X.mg "range" = none) (h : PE X e (up X.K W t)) (h2 : PE X e2 (up X.K W u)) (hs : starEach [e, e2] X.env = (false, eval e X.env) :: starEach [e2] X.env := by rfl) (hs1 : starEach [e, e2] X.env = [(false, eval e X.env), (false, eval e2 X.env)] := by rfl) (hs2 : starEach [e2] X.env = [(false, eval e2 X.env)] := by rfl) : PI X tg (.Call (.Name "range" p) [e, e2] [] pos) (upI X.K W (diRng2 t u)) := by
  refine pi_conv (pi_range2 hg hm (pa_cons h (pa_cons h2 pa_nil hs2) hs) hs1 hs2) fun σ H Q h => ?_
  obtain ⟨C, M, env, k, x, R, h, hk, hx⟩ := h
  refine ⟨C, M, env, _, x, R, h, fun a e1 v H1 M1 h1 R1 k1 g1 r1 => ?_, hx⟩
  refine ⟨C, M1, e1, _, x, R1, h1, fun b e2 v2 H2 M2 h2 R2 k2 g2 r2 => ?_, fun e env' H' M' xe R' k' g' => hx e env' H' M' xe R' (k1.trans g1 k') (Grow.trans k1 g1 g')⟩
  obtain ⟨i, j, rfl, rfl, b1, kd⟩ := h2
  have r1 : v = .int i := r1
  have r2 : v2 = .int j := r2
  subst r1 r2
  exact ⟨i, j, rfl, by omega, hk _ _ _ H2 M2 kd R2 (k1.trans g1 k2) (Grow.trans k1 g1 g2) (itok_rng i j)⟩
theorem di_zip {elts : List Expr} {kk : Nat} {tpos : Pos} (hg : Gl X "zip") (hm : X.mg "zip" = none) (h : PE X e (up X.K W t)) (h2 : PE X e2 (up X.K W u)) (hs : starEach [e, e2] X.env = (false, eval e X.env) :: starEach [e2] X.env := by rfl) (hs2 : starEach [e2] X.env = (false, eval e2 X.env) :: starEach [] X.env := by rfl) (hpl : (backTo pos (starEach [e2] X.env)).any (·.1) = false := by rfl) :
    PI X (.Tuple elts kk tpos) (.Call (.Name "zip" p) [e, e2] [] pos) (upI X.K W (diZip t u)) := by
  refine pi_conv (RZ.pi_zipA hg hm (pa_cons h (pa_cons h2 pa_nil hs2) hs) hs hpl) fun σ H Q h => ?_
  obtain ⟨C, M, env, k, x, R, h, hk, hx⟩ := h
  refine ⟨C, M, env, _, x, R, h, fun a e1 v H1 M1 h1 R1 k1 g1 r1 => ?_, hx⟩
  refine ⟨C, M1, e1, _, x, R1, h1, fun b e2 v2 H2 M2 h2 R2 k2 g2 r2 => ?_, fun e env' H' M' xe R' k' g' => hx e env' H' M' xe R' (k1.trans g1 k') (Grow.trans k1 g1 g')⟩
  obtain ⟨as, bs, q, kd⟩ := h2
  have r1' := k2.rep g2 r1
  rcases q with ⟨rfl, rfl⟩ | ⟨rfl, rfl⟩
  · obtain ⟨a, vs, rfl, n, hb, r⟩ := id r1'
    obtain ⟨a2, vs2, rfl, n2, hb2, r2'⟩ := id r2
    exact ⟨a, a2, vs, vs2, rfl, .inl ⟨SqL.of hb, SqL.of hb2, hk _ _ _ H2 M2 kd R2 (k1.trans g1 k2) (Grow.trans k1 g1 g2) (itok_zipL r1' r2)⟩⟩
  · obtain ⟨a, vs, rfl, n, hb, r⟩ := id r1'
    obtain ⟨a2, vs2, rfl, n2, hb2, r2'⟩ := id r2
    exact ⟨a, a2, vs, vs2, rfl, .inr ⟨SqT.of hb, SqT.of hb2, hk _ _ _ H2 M2 kd R2 (k1.trans g1 k2) (Grow.trans k1 g1 g2) (itok_zipT r1' r2)⟩⟩
theorem di_enum {elts : List Expr} {kk : Nat} {tpos : Pos} (hg : Gl X "enumerate") (hm : X.mg "enumerate" = none) (h : PE X e (up X.K W t)) (hs : starEach [e] X.env = [(false, eval e X.env)] := by rfl) :
    PI X (.Tuple elts kk tpos) (.Call (.Name "enumerate" p) [e] [] pos) (upI X.K W (diEnum t)) := by
  refine pi_conv (pi_enum hg hm (pa_cons h pa_nil hs) hs) fun σ H Q h => ?_
  obtain ⟨C, M, env, k, x, R, h, hk, hx⟩ := h
  refine ⟨C, M, env, _, x, R, h, fun a e1 v H1 M1 h1 R1 k1 g1 r1 => ?_, hx⟩
  obtain ⟨ds, rfl, kd⟩ := h1
  obtain ⟨a, vs, rfl, n, hb, r⟩ := id r1
  exact ⟨a, vs, rfl, SqL.of hb, hk _ _ _ H1 M1 kd R1 k1 g1 (itok_enum r1)⟩
theorem di_rev (hg : Gl X "reversed") (hm : X.mg "reversed" = none) (h : PE X e (up X.K W t)) (hs : starEach [e] X.env = [(false, eval e X.env)] := by rfl) : PI X tg (.Call (.Name "reversed" p) [e] [] pos) (upI X.K W (diRev t)) := by
  refine pi_conv (pi_reversed hg hm (pa_cons h pa_nil hs) hs) fun σ H Q h => ?_
  obtain ⟨C, M, env, k, x, R, h, hk, hx⟩ := h
  refine ⟨C, M, env, _, x, R, h, fun a e1 v H1 M1 h1 R1 k1 g1 r1 => ?_, hx⟩
  obtain ⟨ds, rfl, kd⟩ := h1
  obtain ⟨a, vs, rfl, n, hb, r⟩ := id r1
  exact ⟨a, vs, rfl, SqL.of hb, hk _ _ _ H1 M1 kd R1 k1 g1 (itok_rev r1 r.length)⟩
end

/-! ### targets -/
abbrev DG := D → Env → (Env → Prop) → Prop
def dgName (i : Nat) : DG := fun d env q => q (env.set i (.frz d))
def setAll : Env → List Nat → List D → Env
  | env, i :: is, d :: ds => setAll (env.set i (.frz d)) is ds
  | env, _, _ => env
def dgTup (is : List Nat) : DG := fun d env q => ∃ ds, d = .tup ds ∧ ds.length = is.length ∧ q (setAll env is ds)
/-- a target; only the slots vs are stored -/
def upG (K : PySem.W.Frag) (vs : List Nat) (t : DG) : TG := fun v σ H Q => ∃ (C : Ctx) (M : AS) (env : Env) (d : D) (q : Env → Prop), Rel K C M env σ H ∧ Rep K (fun a => C.G a ∨ M a) H d v ∧ t d env q ∧
  ∀ env' σ', q env' → Rel K C M env' σ' H → σ'.length = σ.length → (∀ j, j ∉ vs → σ'[j]? = σ[j]?) → Q σ' H
def upGs (K : PySem.W.Frag) (vs is : List Nat) : TGs := fun us σ H Q => ∃ (C : Ctx) (M : AS) (env : Env) (ds : List D) (q : Env → Prop), Rel K C M env σ H ∧ Reps K (fun a => C.G a ∨ M a) H ds us ∧ ds.length = is.length ∧ q (setAll env is ds) ∧
  ∀ env' σ', q env' → Rel K C M env' σ' H → σ'.length = σ.length → (∀ j, j ∉ vs → σ'[j]? = σ[j]?) → Q σ' H
section
variable {X : Cx} {pos : Pos}
theorem dg_name {i : Nat} {x : Str} {vs : List Nat} (hN : X.N.Nodup) (hi : X.N[i]? = some x) (hx : Loc X.env.scope x) (hv : i ∈ vs) (hf : X.fn x = true ∨ X.env.scope.names.lookup x = some .local := by first | exact .inl rfl | exact .inr rfl | assumption) : PG X (.Name x pos) (upG X.K vs (dgName i)) := by
  refine ⟨fun pins s σ H v u Q I r h => ?_⟩
  refine (pg_name hN hi hx hf).run pins s σ H v u Q I r ?_
  obtain ⟨C, M, env, d, q, R, rd, h, hq⟩ := h
  exact hq _ _ h (R.storeF rd) (by rw [List.length_set]) fun j hj => List.getElem?_set_ne fun (z : i = j) => hj (z ▸ hv)
theorem dgs_nil {vs : List Nat} : PGs X [] (upGs X.K vs []) := by
  refine ⟨fun pins s σ H us vals Q I r h => ?_⟩
  refine pgs_nil.run pins s σ H us vals Q I r ?_
  obtain ⟨C, M, env, ds, q, R, rd, hl, h, hq⟩ := h
  cases ds with
  | nil => exact ⟨rd, hq _ _ h R rfl fun _ _ => rfl⟩
  | cons d ds => cases hl
theorem dgs_cons {i : Nat} {x : Str} {vs is : List Nat} {es : List Expr} (hN : X.N.Nodup) (hi : X.N[i]? = some x) (hx : Loc X.env.scope x) (hv : i ∈ vs) (h2 : PGs X es (upGs X.K vs is)) (hf : X.fn x = true ∨ X.env.scope.names.lookup x = some .local := by first | exact .inl rfl | exact .inr rfl | assumption)
    (hs : (assignEach (.Name x pos :: es) X.env).map (·.2) = assign (.Name x pos) X.env :: (assignEach es X.env).map (·.2) := by rfl) : PGs X (.Name x pos :: es) (upGs X.K vs (i :: is)) := by
  refine ⟨fun pins s σ H us vals Q I r h => ?_⟩
  refine (pgs_cons (dg_name (pos := pos) (vs := vs) hN hi hx hv hf) h2 hs).run pins s σ H us vals Q I r ?_
  obtain ⟨C, M, env, ds, q, R, rd, hl, h, hq⟩ := h
  cases ds with
  | nil => cases hl
  | cons d ds =>
    obtain ⟨v, vr, rfl, rd1, rd2⟩ := rd
    refine ⟨v, vr, rfl, C, M, env, d, _, R, rd1, rfl, fun env' σ' hq1 R1 l1 s1 => ?_⟩
    subst hq1
    exact ⟨C, M, _, ds, q, R1, rd2, by simpa using hl, h, fun env2 σ2 h2 R2 l2 s2 => hq env2 σ2 h2 R2 (l2.trans l1) fun j hj => (s2 j hj).trans (s1 j hj)⟩
theorem dg_tup {es : List Expr} {k n : Nat} {vs is : List Nat} (hc : X.calm = true) (h : PGs X es (upGs X.K vs is)) (hl : is.length = n) (hn : (assignEach es X.env).length = n := by rfl) (hst : (assignEach es X.env).findIdx? (·.1) = none := by rfl) : PG X (.Tuple es k pos) (upG X.K vs (dgTup is)) := by
  refine ⟨fun pins s σ H v u Q I r h' => ?_⟩
  refine (pg_tup hc h hn hst).run pins s σ H v u Q I r ?_
  obtain ⟨C, M, env, d, q, R, rd, ⟨ds, rfl, hds, h'⟩, hq⟩ := h'
  obtain ⟨a, ws, e, na, ha, ra⟩ := rd
  exact ⟨a, ws, e, SqT.of ha, by rw [ra.length, hds, hl], C, M, env, ds, q, R, ra, hds, h', hq⟩
end

/-! ### for -/
def sFor (src : DI) (tg : DG) (tb : DS) : DS := fun k env => src env (fun items e => ∃ I : Nat → Env → Prop, I 0 e ∧
  (∀ i d env, items[i]? = some d → I i env → tg d env (fun e2 => tb { k with nx := I (i + 1), ct := I (i + 1), bk := k.nx } e2)) ∧ (∀ env, I items.length env → k.nx env)) k.ex
section
variable {X : Cx} {W : HW} {fr : Bool} {tg iter : Expr} {body : List Stmt} {pos : Pos} {src : DI} {g : DG} {vs : List Nat} {tb : DS}
theorem sim_for {K : PySem.W.Frag} {D : Ends} {σ : L2.St} {H : Hp} (h : upS K W fr (sFor src g tb) D σ H) : tFor (upI K W src) (upG K vs g) (upS K W fr tb) D σ H := by
  obtain ⟨C, M, env, k, R, h, hn, hr, hx, hbk, hct⟩ := h
  refine ⟨C, M, env, _, _, R, h, fun items e1 J H1 M1 h1 R1 k1 g1 ok => ?_, fun e env' H' M' xe R' k' g' => hx e env' σ H' M' xe R' k' g'⟩
  obtain ⟨I, i0, turn, fin⟩ := h1
  refine ⟨fun i m σ2 H2 => m = items.length - i ∧ i ≤ items.length ∧ ∃ M2 env2, Rel K C M2 env2 σ2 H2 ∧ Keep M1 H1 H2 ∧ Grow M1 H1 M2 ∧ I i env2, ⟨_, rfl, Nat.zero_le _, M1, e1, R1, .refl _ _, .refl _ _, i0⟩, ?_⟩
  rintro i m σ2 H2 ⟨rfl, hi, M2, env2, R2, k2, g2, i2⟩
  obtain ⟨go, stop⟩ := ok i H2 (fun a => C.G a ∨ M2 a) (fun a o e n => k2.kp a o e fun z => n (.inr z)) (fun a n z => z.elim .inl fun z => (g2 a z).elim .inr fun q => absurd q n) R2.avt
  by_cases hlt : i < items.length
  · obtain ⟨go, yl⟩ := go _ (List.getElem?_eq_getElem hlt)
    refine .inr ⟨go, fun σ' H' => ∃ M' env', Rel K C M' env' σ' H' ∧ Keep M1 H1 H' ∧ Grow M1 H1 M' ∧ I (i + 1) env', fun σ' H' ⟨M', env', q⟩ => ⟨_, by omega, rfl, hlt, M', env', q⟩, fun x H3 hy => ?_⟩
    obtain ⟨sm, rx⟩ := yl x H3 hy
    have k3 : Keep M1 H1 H3 := k2.trans g2 (.same sm)
    refine ⟨C, M2, env2, _, _, R2.same sm, rx, turn i _ env2 (List.getElem?_eq_getElem hlt) i2, fun env4 σ4 h4 R4 _ _ => ?_⟩
    have k4 : Keep M H H3 := k1.trans g1 k3
    have g4 : Grow M H M2 := Grow.trans k1 g1 g2
    refine ⟨C, M2, env4, _, R4, h4, fun env' σ' H' M' q R' k' g' => ⟨M', env', R', k3.trans g2 k', Grow.trans k3 g2 g', q⟩, fun d e v s h m q r kk gg z => hr d e v s h m q r (k4.trans g4 kk) (Grow.trans k4 g4 gg) z,
      fun y e s h m q r kk gg => hx y e s h m q r (k4.trans g4 kk) (Grow.trans k4 g4 gg), fun e s h m q r kk gg => hn e s h m q r (k4.trans g4 kk) (Grow.trans k4 g4 gg), fun env' σ' H' M' q R' k' g' => ⟨M', env', R', k3.trans g2 k', Grow.trans k3 g2 g', q⟩⟩
  · have e : i = items.length := by omega
    subst e
    exact .inl ⟨stop (Nat.le_refl _), hn env2 σ2 H2 M2 (fin env2 i2) R2 (k1.trans g1 k2) (Grow.trans k1 g1 g2)⟩
theorem ds_for (hp : PassesOwn (model X.prog X.w) X.A X.env X.xe) (hc : X.calm = true) (hi : PI X tg iter (upI X.K W src)) (hg : PG X tg (upG X.K vs g)) (hb : PSs X body (upS X.K W fr tb))
    (hs : ∀ x, foldedSetIterable iter X.env x = pure x := by intro _; rfl) : PS X (.For tg iter body [] pos) (upS X.K W fr (sFor src g tb)) :=
  ps_conv (ps_for hp hc hi hg hb hs) fun _ _ _ => sim_for
end

/-! ### a dict walked: locked meanwhile -/
section
variable {K : PySem.W.Frag} {Av : AS} {H : Hp} {a : Addr} {u : HO} {od : Obj}
/-- a dict locked, or unlocked: what leans on it still stands -/
theorem lock_rep (hT : (∃ ws, u = .dT ws) ∨ ∃ ws, u = .dK ws) {H' : Hp} (hk : ∀ b, b ≠ a → H' b = H b) (h1 : Rd H a u) (h2 : Rd H' a u) : ∀ (d : D) (v : V), Rep K Av H d v → Rep K Av H' d v := by
  have hne : ∀ b o, H b = some o → (∀ od, o ≠ .frz od u) → o ≠ u → H' b = some o := fun b o e n1 n2 => by
    rw [hk b fun z => ?_]
    · exact e
    · subst z
      rcases h1 with h1 | ⟨o1, h1⟩
      · rw [h1] at e; cases e; exact n2 rfl
      · rw [h1] at e; cases e; exact n1 _ rfl
  have key : ∀ (n : Nat) (d : D) (v : V), sizeOf d < n → Rep K Av H d v → Rep K Av H' d v := by
    intro n
    induction n with
    | zero => intro d v h; exact absurd h (Nat.not_lt_zero _)
    | succ n ih =>
      intro d v hs h
      have all : ∀ (ds : List D) (vs : List V), (∀ d ∈ ds, sizeOf d < n) → Reps K Av H ds vs → Reps K Av H' ds vs := by
        intro ds
        induction ds with
        | nil => intro vs _ h; exact h
        | cons d ds ih2 =>
          intro vs hs ⟨v, r, e, q1, q2⟩
          exact ⟨v, r, e, ih d v (hs d List.mem_cons_self) q1, ih2 r (fun d hd => hs d (List.mem_cons_of_mem _ hd)) q2⟩
      cases d with
      | non | bl _ | int _ | str _ => exact h
      | obj _ _ => exact h
      | tup ds =>
        obtain ⟨b, vs, e, nb, hb, r⟩ := h
        refine ⟨b, vs, e, nb, hne b _ hb (fun _ z => nomatch z) fun z => ?_, all ds vs (fun d hd => ?_) r⟩
        · rcases hT with ⟨ws, rfl⟩ | ⟨ws, rfl⟩ <;> cases z
        · have := List.sizeOf_lt_of_mem hd
          simp at hs; omega
      | lst ds =>
        obtain ⟨b, vs, e, nb, hb, r⟩ := h
        refine ⟨b, vs, e, nb, hne b _ hb (fun _ z => nomatch z) fun z => ?_, all ds vs (fun d hd => ?_) r⟩
        · rcases hT with ⟨ws, rfl⟩ | ⟨ws, rfl⟩ <;> cases z
        · have := List.sizeOf_lt_of_mem hd
          simp at hs; omega
      | scr ns =>
        obtain ⟨b, e, q⟩ := h
        refine ⟨b, e, q.elim (fun ⟨nb, o, hb⟩ => .inl ⟨nb, o, hne b _ hb (fun _ z => ?_) fun z => ?_⟩) .inr⟩
        · rcases hT with ⟨ws, rfl⟩ | ⟨ws, rfl⟩ <;> cases z
        · rcases hT with ⟨ws, rfl⟩ | ⟨ws, rfl⟩ <;> cases z
      | dI kvs =>
        obtain ⟨b, ws, e, nb, hb, r⟩ := h
        refine ⟨b, ws, e, nb, ?_, ?_⟩
        · by_cases z : b = a
          · subst z
            have : u = .dK ws := by
              rcases h1 with h1 | ⟨o1, h1⟩ <;> rcases hb with hb | ⟨o2, hb⟩ <;> (rw [h1] at hb; cases hb; first | rfl | skip)
              · rcases hT with ⟨ws', z⟩ | ⟨ws', z⟩ <;> cases z
            rw [← this]; exact h2
          · rcases hb with hb | ⟨o2, hb⟩
            · exact .inl (by rw [hk b z]; exact hb)
            · exact .inr ⟨o2, by rw [hk b z]; exact hb⟩
        · have : ∀ (kvs : List (Int × D)) (ws : List (Key × V)), (∀ p ∈ kvs, sizeOf p.2 < n) → RepI K Av H kvs ws → RepI K Av H' kvs ws := by
            intro kvs
            induction kvs with
            | nil => intro vs _ h; exact h
            | cons p ds ih2 =>
              obtain ⟨k, d⟩ := p
              intro vs hs ⟨v, r, e, q1, q2⟩
              exact ⟨v, r, e, ih d v (hs (k, d) List.mem_cons_self) q1, ih2 r (fun d hd => hs d (List.mem_cons_of_mem _ hd)) q2⟩
          refine this kvs ws (fun p hp => ?_) r
          have := List.sizeOf_lt_of_mem hp
          obtain ⟨k, d⟩ := p
          simp at hs this ⊢; omega
      | dT kvs =>
        obtain ⟨b, ws, e, nb, hb, r⟩ := h
        refine ⟨b, ws, e, nb, ?_, ?_⟩
        · by_cases z : b = a
          · subst z
            have : u = .dT ws := by
              rcases h1 with h1 | ⟨o1, h1⟩ <;> rcases hb with hb | ⟨o2, hb⟩ <;> (rw [h1] at hb; cases hb; first | rfl | skip)
              · rcases hT with ⟨ws', z⟩ | ⟨ws', z⟩ <;> cases z
            rw [← this]; exact h2
          · rcases hb with hb | ⟨o2, hb⟩
            · exact .inl (by rw [hk b z]; exact hb)
            · exact .inr ⟨o2, by rw [hk b z]; exact hb⟩
        · have : ∀ (kvs : List (List Int × D)) (ws : List (List Key × V)), (∀ p ∈ kvs, sizeOf p.2 < n) → RepT K Av H kvs ws → RepT K Av H' kvs ws := by
            intro kvs
            induction kvs with
            | nil => intro vs _ h; exact h
            | cons p ds ih2 =>
              obtain ⟨k, d⟩ := p
              intro vs hs ⟨v, r, e, q1, q2⟩
              exact ⟨v, r, e, ih d v (hs (k, d) List.mem_cons_self) q1, ih2 r (fun d hd => hs d (List.mem_cons_of_mem _ hd)) q2⟩
          refine this kvs ws (fun p hp => ?_) r
          have := List.sizeOf_lt_of_mem hp
          obtain ⟨k, d⟩ := p
          simp at hs this ⊢; omega
  exact fun d v h => key (sizeOf d + 1) d v (Nat.lt_succ_self _) h
end
end FX

set_option Elab.async false
set_option linter.all false
set_option maxRecDepth 100000
set_option maxHeartbeats 1000000
/-! FxE: comprehensions; dicts walked -/
namespace FX
open PySem PySem.Spec PyProof.Rows L2

def wipeE : List Nat → Env → Env
  | [], e => e
  | v :: vs, e => (wipeE vs e).set v .no
section
variable {K : PySem.W.Frag} {W : HW} {C : Ctx} {M : AS} {env : Env} {σ : L2.St} {H : Hp} {Q : VK}
/-- a slot is forgotten -/
theorem Rel.forget {i : Nat} {o : Option V} (R : Rel K C M env σ H) : Rel K C M (env.set i .no) (σ.set i o) H := by
  obtain ⟨adr, ha, hs⟩ := R.sl
  refine ⟨R.gm, R.gt, R.mm, R.bh, by rw [List.length_set, List.length_set]; exact R.len, adr, fun j l s t e1 e2 m1 m2 e => ?_, fun j s e => ?_⟩
  · rcases get_set_cases e1 with ⟨_, rfl, _⟩ | ⟨_, e1⟩
    · cases m1
    · rcases get_set_cases e2 with ⟨_, rfl, _⟩ | ⟨_, e2⟩
      · cases m2
      · exact ha j l s t e1 e2 m1 m2 e
  · rcases get_set_cases e with ⟨rfl, rfl, hl⟩ | ⟨ne, e⟩
    · exact True.intro
    · have q := hs j s e
      have hσ : (σ.set i o)[j]? = σ[j]? := List.getElem?_set_ne ne
      cases s with
      | no => exact True.intro
      | frz d => obtain ⟨v, h1, h2⟩ := q; exact ⟨v, hσ.trans h1, h2⟩
      | own d => obtain ⟨v, h1, h2⟩ := q; exact ⟨v, hσ.trans h1, h2⟩
      | par d => obtain ⟨h1, h2⟩ := q; exact ⟨hσ.trans h1, h2⟩
theorem Rel.wipe (R : Rel K C M env σ H) : ∀ vs : List Nat, Rel K C M (wipeE vs env) (L2.wipe σ vs) H
  | [] => R
  | v :: vs => (Rel.wipe R vs).forget
theorem Rel.slots {σ' : L2.St} (R : Rel K C M env σ H) (hl : σ'.length = σ.length) (h : ∀ (j : Nat) v, σ[j]? = some (some v) → σ'[j]? = some (some v)) : Rel K C M env σ' H := by
  obtain ⟨adr, ha, hs⟩ := R.sl
  refine ⟨R.gm, R.gt, R.mm, R.bh, R.len.trans hl.symm, adr, ha, fun j s e => ?_⟩
  have q := hs j s e
  cases s with
  | no => exact True.intro
  | frz d => obtain ⟨v, h1, h2⟩ := q; exact ⟨v, h j v h1, h2⟩
  | own d => obtain ⟨v, h1, h2⟩ := q; exact ⟨v, h j v h1, h2⟩
  | par d => obtain ⟨h1, h2⟩ := q; exact ⟨h j _ h1, h2⟩
theorem Rel.unwipe {vs : List Nat} (R : Rel K C M env (L2.wipe σ vs) H) : Rel K C M env σ H := R.slots (wipe_length σ vs).symm fun j v e => (wipe_some e).1
/-- a thing that is not ours to touch, touched by its owner -/
theorem Rel.touch {p : Addr} {o : HO} (R : Rel K C M env σ H) (g : C.G p) (mo : Mut (some o)) : Rel K C M env σ (upd H p o) := by
  have ne : ∀ a, M a → a ≠ p := fun a m e => R.gm p g (e ▸ m)
  have kp : ∀ a o', H a = some o' → ¬ (C.G a ∨ M a) → (upd H p o) a = some o' := fun a o' e n => by rw [upd_ne fun (z : a = p) => n (.inl (z ▸ g))]; exact e
  have th : ∀ a, H a ≠ none → (upd H p o) a ≠ none := fun a h => by
    by_cases e : a = p
    · subst e; rw [upd_same]; simp
    · rw [upd_ne e]; exact h
  obtain ⟨adr, ha, hs⟩ := R.sl
  refine ⟨R.gm, fun a g' => ?_, fun a m => by rw [upd_ne (ne a m)]; exact R.mm a m, fun a b => th a (R.bh a b), R.len, adr, ha, fun j s e => ?_⟩
  · by_cases e : a = p
    · subst e; rw [upd_same]; exact mo
    · rw [upd_ne e]; exact R.gt a g'
  · have q := hs j s e
    cases s with
    | no => exact True.intro
    | frz d => obtain ⟨v, h1, h2⟩ := q; exact ⟨v, h1, Rep.mono kp (fun _ _ z => z) d v h2⟩
    | own d => obtain ⟨v, h1, h2, h3, h4⟩ := q; exact ⟨v, h1, h2, h3, h4.mono (fun o' e => by rw [upd_ne (ne _ h2)]; exact e) kp fun _ _ z => z⟩
    | par d => obtain ⟨h1, h2, h4⟩ := q; exact ⟨h1, h2, h4.mono (fun o' e => by rw [upd_ne (ne _ h2)]; exact e) kp fun _ _ z => z⟩
theorem wipe_get {σ : L2.St} {i : Nat} : ∀ {vs : List Nat}, i ∉ vs → (L2.wipe σ vs)[i]? = σ[i]?
  | [], _ => rfl
  | v :: vs, h => by
    unfold L2.wipe
    rw [List.getElem?_set_ne fun (z : v = i) => h (by simp [z])]
    exact wipe_get fun z => h (List.mem_cons_of_mem _ z)
theorem wipe_in {σ : L2.St} {i : Nat} : ∀ {vs : List Nat}, i ∈ vs → i < σ.length → (L2.wipe σ vs)[i]? = some none
  | v :: vs, h, hl => by
    unfold L2.wipe
    by_cases e : v = i
    · subst e; rw [List.getElem?_set_self (by rw [wipe_length]; exact hl)]
    · rw [List.getElem?_set_ne e]
      exact wipe_in (by simpa [Ne.symm e] using h) hl
theorem wipe_ext {σ σ' : L2.St} {vs : List Nat} (hl : σ'.length = σ.length) (h : ∀ j, j ∉ vs → σ'[j]? = σ[j]?) : L2.wipe σ' vs = L2.wipe σ vs := by
  apply List.ext_getElem?
  intro j
  by_cases hj : j ∈ vs
  · by_cases hjl : j < σ.length
    · rw [wipe_in hj hjl, wipe_in hj (by rw [hl]; exact hjl)]
    · rw [List.getElem?_eq_none (by rw [wipe_length, hl]; omega), List.getElem?_eq_none (by rw [wipe_length]; omega)]
  · rw [wipe_get hj, wipe_get hj, h j hj]
theorem wipe_wipe {σ : L2.St} {vs : List Nat} : L2.wipe (L2.wipe σ vs) vs = L2.wipe σ vs := wipe_ext (wipe_length _ _) fun j hj => wipe_get hj
end

def fls : XW := fun _ _ => False
/-- [te for g in src if tt]; the slots vs are its own -/
def dLc (src : DI) (g : DG) (tt : DT) (te : DE) (vs : List Nat) : DE := fun env k x => src env (fun items e => items.length ≤ 1000000 ∧ ∃ I : Nat → List D → Env → Prop, I 0 [] (wipeE vs e) ∧
  (∀ i d acc env, items[i]? = some d → I i acc env → g d env (fun e2 => tt e2 (fun b e3 => if b = true then te e3 (fun y e4 => I (i + 1) (acc ++ [y]) (wipeE vs e4)) fls else I (i + 1) acc (wipeE vs e3)) fls)) ∧
  (∀ acc env, I items.length acc env → k (.lst acc) env)) x
def dtYes : DT := fun env k _ => k true env
def dLc2 (src : DI) (g : DG) (tt : DT) (src1 : DI) (g1 : DG) (tt1 : DT) (te : DE) (vs vs1 : List Nat) : DE := fun env k x => src env (fun items e => ∃ I : Nat → List D → Env → Prop, I 0 [] (wipeE vs e) ∧
  (∀ i d acc env, items[i]? = some d → I i acc env → g d env (fun e2 => tt e2 (fun b e3 => if b = true then
      src1 e3 (fun items1 e4 => ∃ I1 : Nat → List D → Env → Prop, I1 0 acc (wipeE vs1 e4) ∧
        (∀ j d acc env, items1[j]? = some d → I1 j acc env → g1 d env (fun e5 => tt1 e5 (fun b e6 => if b = true then te e6 (fun y e7 => acc.length < 16777216 ∧ I1 (j + 1) (acc ++ [y]) (wipeE vs1 e7)) fls else I1 (j + 1) acc (wipeE vs1 e6)) fls)) ∧
        (∀ acc env, I1 items1.length acc env → I (i + 1) acc (wipeE vs env))) fls
    else I (i + 1) acc (wipeE vs e3)) fls)) ∧
  (∀ acc env, I items.length acc env → k (.lst acc) env)) x
abbrev W0 : HW := fun _ _ => False
section
variable {K : PySem.W.Frag} {W : HW} {C : Ctx} {M : AS} {env : Env} {σ : L2.St} {H : Hp} {Q : VK} {src src1 : DI} {g g1 : DG} {tt tt1 : DT} {te : DE} {vs vs1 : List Nat}
/-- a list that is being made, at L -/
structure Making (K : PySem.W.Frag) (C : Ctx) (M1 : AS) (H1 : Hp) (L : Addr) (M2 : AS) (env : Env) (σ : L2.St) (H2 : Hp) (acc : List FX.D) : Prop where
  rel : Rel K (C.add L) M2 env σ H2
  kp : Keep M1 H1 H2
  gr : Grow M1 H1 M2
  li : ∃ ws, H2 L = some (.lst ws) ∧ Reps K (fun a => (C.add L).G a ∨ M2 a) H2 acc ws
theorem Making.grow {M1 M2 M3 : AS} {H1 H2 H3 : Hp} {L : Addr} {acc : List FX.D} {env2 : Env} {σ2 : L2.St} (m : Making K C M1 H1 L M2 env σ H2 acc) (R : Rel K (C.add L) M3 env2 σ2 H3) (k : Keep M2 H2 H3) (g : Grow M2 H2 M3) : Making K C M1 H1 L M3 env2 σ2 H3 acc := by
  obtain ⟨ws, hD, r⟩ := m.li
  exact ⟨R, m.kp.trans m.gr k, Grow.trans m.kp m.gr g, ws, k.kp L _ hD (m.rel.gm L (.inr rfl)), k.reps g r⟩
theorem Making.app {M1 M2 M3 : AS} {H1 H2 H3 : Hp} {L : Addr} {acc : List FX.D} {env2 : Env} {σ2 : L2.St} (hD1 : H1 L = none) (m : Making K C M1 H1 L M2 env σ H2 acc) (R : Rel K (C.add L) M3 env2 σ2 H3) (k : Keep M2 H2 H3) (g : Grow M2 H2 M3) {d : FX.D} {v : V} (r : Rep K (fun a => (C.add L).G a ∨ M3 a) H3 d v) :
    ∃ ws, H3 L = some (.lst ws) ∧ ws.length = acc.length ∧ Making K C M1 H1 L M3 env2 σ2 (upd H3 L (.lst (ws ++ [v]))) (acc ++ [d]) := by
  obtain ⟨ws, hD, rr⟩ := m.li
  have hD3 := k.kp L _ hD (m.rel.gm L (.inr rfl))
  have rr3 := k.reps g rr
  refine ⟨ws, hD3, rr.length, R.touch (.inr rfl) trivial, ⟨fun a o e n => ?_, fun a n => ?_⟩, Grow.trans m.kp m.gr g, ws ++ [v], upd_same, ?_⟩
  · rw [upd_ne fun z => by rw [z, hD1] at e; cases e]
    exact (m.kp.trans m.gr k).kp a o e n
  · by_cases z : a = L
    · subst z; exact absurd hD1 n
    · rw [upd_ne z]; exact (m.kp.trans m.gr k).th a n
  · have mo : ∀ a o, H3 a = some o → ¬ ((C.add L).G a ∨ M3 a) → (upd H3 L (.lst (ws ++ [v]))) a = some o := fun a o e n => by rw [upd_ne fun z => n (.inl (.inr z))]; exact e
    exact .append (Reps.mono mo (fun _ _ z => z) _ _ rr3) (.one (Rep.mono mo (fun _ _ z => z) _ _ r))
theorem Making.back {M1 M2 : AS} {H1 H2 : Hp} {L : Addr} {acc : List FX.D} {σ2 : L2.St} (m : Making K C M1 H1 L M2 env σ2 H2 acc) (hw : L2.wipe σ2 vs = L2.wipe σ vs) : Making K C M1 H1 L M2 (wipeE vs env) (L2.wipe σ vs) H2 acc :=
  ⟨hw ▸ m.rel.wipe vs, m.kp, m.gr, m.li⟩
theorem Rel.making {L : Addr} (R : Rel K C M env σ H) (hD : H L = none) : Making K C M H L M env σ (upd H L (.lst [])) [] :=
  ⟨R.add (same_new hD) hD (by rw [upd_same]; trivial), .same (same_new hD), .refl _ _, [], upd_same, rfl⟩
theorem sim_lc (h : upF K W (dLc src g tt te vs) σ H Q) : tLc (upI K W src) (upG K vs g) (upT K W0 tt) (up K W0 te) vs σ H Q := by
  obtain ⟨C, M, env, k, x, R, h, hk, hx⟩ := h
  refine ⟨C, M, env, _, x, R, h, fun items e1 J H1 M1 h1 R1 k1 g1 ok => ?_, hx⟩
  obtain ⟨hz, I, i0, turn, fin⟩ := h1
  intro L hD
  refine ⟨fun i m H2 => m = items.length - i ∧ i ≤ items.length ∧ ∃ M2 env2 acc, Making K C M1 H1 L M2 env2 (L2.wipe σ vs) H2 acc ∧ acc.length ≤ i ∧ I i acc env2, ⟨_, rfl, Nat.zero_le _, M1, _, [], (R1.making hD).back rfl, Nat.le_refl _, i0⟩, ?_⟩
  rintro i m H2 ⟨rfl, hi, M2, env2, acc, mk, hacc, i2⟩
  obtain ⟨go, stop⟩ := ok i H2 (fun a => (C.add L).G a ∨ M2 a) (fun a o e n => mk.kp.kp a o e fun z => n (.inr z))
    (fun a n z => z.elim (fun z => z.elim .inl fun z => absurd hD (z ▸ n)) fun z => (mk.gr a z).elim .inr fun q => absurd q n) mk.rel.avt
  by_cases hlt : i < items.length
  · obtain ⟨go, yl⟩ := go _ (List.getElem?_eq_getElem hlt)
    refine .inr ⟨go, fun H' => ∃ M' env' acc', Making K C M1 H1 L M' env' (L2.wipe σ vs) H' acc' ∧ acc'.length ≤ i + 1 ∧ I (i + 1) acc' env', fun H' ⟨M', env', acc', q⟩ => ⟨_, by omega, rfl, hlt, M', env', acc', q⟩, fun x H3 hy => ?_⟩
    obtain ⟨sm, rx⟩ := yl x H3 hy
    have R3 := mk.rel.same sm
    have mk3 := mk.grow R3 (.same sm) (.refl _ _)
    refine ⟨C.add L, M2, env2, _, _, R3, rx, turn i _ acc env2 (List.getElem?_eq_getElem hlt) i2, fun env4 σ4 h4 R4 l4 s4 => ?_⟩
    have hw : L2.wipe σ4 vs = L2.wipe σ vs := (wipe_ext l4 s4).trans wipe_wipe
    refine ⟨hw, C.add L, M2, env4, _, _, R4, h4, fun b e5 H5 M5 h5 R5 k5 g5 => ?_, fun _ _ _ _ z _ _ _ => z⟩
    have mk5 := mk3.grow R5 k5 g5
    cases b with
    | false =>
      rw [if_neg Bool.false_ne_true] at h5
      exact iteF ⟨M5, _, acc, mk5.back hw, by omega, h5⟩
    | true =>
      rw [if_pos rfl] at h5
      refine iteT ⟨C.add L, M5, e5, _, _, R5, h5, fun y e6 v H6 M6 h6 R6 k6 g6 r6 => ?_, fun _ _ _ _ z _ _ _ => z⟩
      obtain ⟨ws, q1, q2, q3⟩ := mk5.app hD R6 k6 g6 r6
      exact ⟨ws, q1, by rw [q2, line_eq]; omega, M6, _, _, q3.back hw, by rw [List.length_append, List.length_singleton]; omega, h6⟩
  · have e : i = items.length := by omega
    subst e
    refine .inl ⟨stop (Nat.le_refl _), ?_⟩
    obtain ⟨ws, q1, q2⟩ := mk.li
    exact hk _ env2 L (.ref L) H2 M2 (fin acc env2 i2) mk.rel.unwipe (k1.trans g1 mk.kp) (Grow.trans k1 g1 mk.gr) (by
      cases e : H L with
      | none => rfl
      | some o => exact absurd hD (k1.th L (by rw [e]; simp))) ⟨rfl, ws, q1, q2⟩
theorem sim_lc2 (h : upF K W (dLc2 src g tt src1 g1 tt1 te vs vs1) σ H Q) : tLc2 (upI K W src) (upG K vs g) (upT K W0 tt) (upI K W0 src1) (upG K vs1 g1) (upT K W0 tt1) (up K W0 te) vs vs1 σ H Q := by
  obtain ⟨C, M, env, k, x, R, h, hk, hx⟩ := h
  refine ⟨C, M, env, _, x, R, h, fun items e1 J H1 M1 h1 R1 k1 g1 ok => ?_, hx⟩
  obtain ⟨I, i0, turn, fin⟩ := h1
  intro L hD
  refine ⟨fun i m H2 => m = items.length - i ∧ i ≤ items.length ∧ ∃ M2 env2 acc, Making K C M1 H1 L M2 env2 (L2.wipe σ vs) H2 acc ∧ I i acc env2, ⟨_, rfl, Nat.zero_le _, M1, _, [], (R1.making hD).back rfl, i0⟩, ?_⟩
  rintro i m H2 ⟨rfl, hi, M2, env2, acc, mk, i2⟩
  obtain ⟨go, stop⟩ := ok i H2 (fun a => (C.add L).G a ∨ M2 a) (fun a o e n => mk.kp.kp a o e fun z => n (.inr z))
    (fun a n z => z.elim (fun z => z.elim .inl fun z => absurd hD (z ▸ n)) fun z => (mk.gr a z).elim .inr fun q => absurd q n) mk.rel.avt
  by_cases hlt : i < items.length
  · obtain ⟨go, yl⟩ := go _ (List.getElem?_eq_getElem hlt)
    refine .inr ⟨go, fun H' => ∃ M' env' acc', Making K C M1 H1 L M' env' (L2.wipe σ vs) H' acc' ∧ I (i + 1) acc' env', fun H' ⟨M', env', acc', q⟩ => ⟨_, by omega, rfl, hlt, M', env', acc', q⟩, fun x H3 hy => ?_⟩
    obtain ⟨sm, rx⟩ := yl x H3 hy
    have R3 := mk.rel.same sm
    have mk3 := mk.grow R3 (.same sm) (.refl _ _)
    refine ⟨C.add L, M2, env2, _, _, R3, rx, turn i _ acc env2 (List.getElem?_eq_getElem hlt) i2, fun env4 σ4 h4 R4 l4 s4 => ?_⟩
    have hw : L2.wipe σ4 vs = L2.wipe σ vs := (wipe_ext l4 s4).trans wipe_wipe
    refine ⟨hw, C.add L, M2, env4, _, _, R4, h4, fun b e5 H5 M5 h5 R5 k5 g5 => ?_, fun _ _ _ _ z _ _ _ => z⟩
    have mk5 := mk3.grow R5 k5 g5
    cases b with
    | false =>
      rw [if_neg Bool.false_ne_true] at h5
      exact iteF ⟨M5, _, acc, mk5.back hw, h5⟩
    | true =>
      rw [if_pos rfl] at h5
      refine iteT ⟨C.add L, M5, e5, _, _, R5, h5, fun items1 e6 J1 H6 M6 h6 R6 k6 g6 ok1 => ?_, fun _ _ _ _ z _ _ _ => z⟩
      have mk6 := mk5.grow R6 k6 g6
      obtain ⟨I1, j0, turn1, fin1⟩ := h6
      refine ⟨fun j m H7 => m = items1.length - j ∧ j ≤ items1.length ∧ ∃ M7 env7 acc7, Making K C M1 H1 L M7 env7 (L2.wipe σ4 vs1) H7 acc7 ∧ Keep (fun a => (C.add L).G a ∨ M6 a) H6 H7 ∧ Grow M6 H6 M7 ∧ I1 j acc7 env7, ⟨_, rfl, Nat.zero_le _, M6, _, acc, mk6.back rfl, .refl _ _, .refl _ _, j0⟩, ?_⟩
      rintro j m H7 ⟨rfl, hj, M7, env7, acc7, mk7, k7, g7, i7⟩
      have keepG : ∀ {H' : Hp}, Keep M7 H7 H' → Keep (fun a => (C.add L).G a ∨ M6 a) H6 H' := fun {H'} k' => ⟨fun a o e n => k'.kp a o (k7.kp a o e n) fun z => (g7 a z).elim (fun z => n (.inr z)) fun q => (by rw [q] at e; cases e), fun a n => k'.th a (k7.th a n)⟩
      have th7 : ∀ {a}, H6 a ≠ none → H7 a ≠ none := fun {a} => k7.th a
      have growG : ∀ {M' : AS}, Grow M7 H7 M' → Grow M6 H6 M' := fun {M'} g' a z => by
        rcases g' a z with q | q
        · exact g7 a q
        · right
          cases e : H6 a with
          | none => rfl
          | some o => exact absurd q (th7 (by rw [e]; simp))
      obtain ⟨go1, stop1⟩ := ok1 j H7 (fun a => (C.add L).G a ∨ M7 a) (fun a o e n => k7.kp a o e n)
        (fun a n z => z.elim .inl fun z => (g7 a z).elim .inr fun q => absurd q n) mk7.rel.avt
      by_cases hlt1 : j < items1.length
      · obtain ⟨go1, yl1⟩ := go1 _ (List.getElem?_eq_getElem hlt1)
        refine .inr ⟨go1, fun H' => ∃ M' env' acc', Making K C M1 H1 L M' env' (L2.wipe σ4 vs1) H' acc' ∧ Keep (fun a => (C.add L).G a ∨ M6 a) H6 H' ∧ Grow M6 H6 M' ∧ I1 (j + 1) acc' env', fun H' ⟨M', env', acc', q⟩ => ⟨_, by omega, rfl, hlt1, M', env', acc', q⟩, fun x1 H8 hy1 => ?_⟩
        obtain ⟨sm1, rx1⟩ := yl1 x1 H8 hy1
        have R8 := mk7.rel.same sm1
        have mk8 := mk7.grow R8 (.same sm1) (.refl _ _)
        refine ⟨C.add L, M7, env7, _, _, R8, rx1, turn1 j _ acc7 env7 (List.getElem?_eq_getElem hlt1) i7, fun env9 σ9 h9 R9 l9 s9 => ?_⟩
        have hw1 : L2.wipe σ9 vs1 = L2.wipe σ4 vs1 := (wipe_ext l9 s9).trans wipe_wipe
        refine ⟨hw1, C.add L, M7, env9, _, _, R9, h9, fun b e10 H10 M10 h10 R10 k10 g10 => ?_, fun _ _ _ _ z _ _ _ => z⟩
        have mk10 := mk8.grow R10 k10 g10
        have k710 : Keep M7 H7 H10 := (Keep.same sm1).trans (.refl _ _) k10
        have g710 : Grow M7 H7 M10 := Grow.trans (.same sm1) (.refl _ _) g10
        cases b with
        | false =>
          rw [if_neg Bool.false_ne_true] at h10
          exact iteF ⟨M10, _, acc7, mk10.back hw1, keepG k710, growG g710, h10⟩
        | true =>
          rw [if_pos rfl] at h10
          refine iteT ⟨C.add L, M10, e10, _, _, R10, h10, fun y e11 v H11 M11 h11 R11 k11 g11 r11 => ?_, fun _ _ _ _ z _ _ _ => z⟩
          obtain ⟨ws, q1, q2, q3⟩ := mk10.app hD R11 k11 g11 r11
          have k711 : Keep M7 H7 H11 := k710.trans g710 k11
          refine ⟨ws, q1, by rw [q2, line_eq]; exact h11.1, M11, _, _, q3.back hw1, ⟨fun a o e n => ?_, fun a n => ?_⟩, growG (Grow.trans k710 g710 g11), h11.2⟩
          · rw [upd_ne fun z => n (.inl (.inr z))]
            exact (keepG k711).kp a o e n
          · by_cases z : a = L
            · subst z; rw [upd_same]; simp
            · rw [upd_ne z]; exact (keepG k711).th a n
      · have e : j = items1.length := by omega
        subst e
        refine .inl ⟨stop1 (Nat.le_refl _), M7, _, acc7, ?_, fin1 acc7 env7 i7⟩
        have m' : Making K C M1 H1 L M7 env7 σ4 H7 acc7 := ⟨mk7.rel.unwipe, mk7.kp, mk7.gr, mk7.li⟩
        exact m'.back hw
  · have e : i = items.length := by omega
    subst e
    refine .inl ⟨stop (Nat.le_refl _), ?_⟩
    obtain ⟨ws, q1, q2⟩ := mk.li
    exact hk _ env2 L (.ref L) H2 M2 (fin acc env2 i2) mk.rel.unwipe (k1.trans g1 mk.kp) (Grow.trans k1 g1 mk.gr) (by
      cases e : H L with
      | none => rfl
      | some o => exact absurd hD (k1.th L (by rw [e]; simp))) ⟨rfl, ws, q1, q2⟩
end

section
variable {X : Cx} {W : HW} {elt tg iter tg1 iter1 c : Expr} {scope : Scope} {own : List (Str × Nat)} {pos : Pos} {src src1 : DI} {g g1 : DG} {tt tt1 : DT} {te : DE} {ifs ifs1 : List Expr}
theorem dts_nil : PTs X [] (upT X.K W dtYes) := by
  refine ⟨fun pins s σ H Q I h => pts_nil.run pins s σ H Q I ?_⟩
  obtain ⟨C, M, env, k, x, R, h, hk, hx⟩ := h
  exact hk true env H M h R (.refl _ _) (.refl _ _)
theorem dts_one {t : DT} (h : PT X c (upT X.K W t)) : PTs X [c] (upT X.K W t) := pts_one h
/-- a comprehension as a value -/
theorem de_lc (vs : List Nat) (hv : own.map (·.2) = vs) (hc : X.calm = true) (hN : X.N.Nodup) (hi : PI X tg iter (upI X.K W src)) (ok : BlkOk X.N X.env.scope scope own)
    (hg : ∀ (s : Shared) (H : Hp) (C : Addr) (cl : List (Str × Addr)) (fp : List Addr), PG (X.blk s H scope (compEnvC scope cl C X.env) fp) tg (upG X.K vs g)) (ht : ∀ (s : Shared) (H : Hp) (C : Addr) (cl : List (Str × Addr)) (fp : List Addr), PTs (X.blk s H scope (compEnvC scope cl C X.env) fp) ifs (upT X.K W0 tt))
    (he : ∀ (s : Shared) (H : Hp) (C : Addr) (cl : List (Str × Addr)) (fp : List Addr), PE (X.blk s H scope (compEnvC scope cl C X.env) fp) elt (up X.K W0 te)) (hs : ∀ x, foldedSetIterable iter X.env x = pure x := by intro _; rfl) :
    PE X (.ListComp elt [⟨tg, iter, ifs, 0⟩] scope pos) (upF X.K W (dLc src g tt te vs)) := by
  subst hv
  exact pe_conv (pe_lc hc hN hi ok hg ht he hs) fun _ _ _ => sim_lc
theorem de_lc2 (vs vs1 : List Nat) (hv : own.map (·.2) = vs) (hv1 : ∀ i ∈ vs1, i ∈ vs) (hc : X.calm = true) (hN : X.N.Nodup) (hi : PI X tg iter (upI X.K W src)) (ok : BlkOk X.N X.env.scope scope own)
    (hg : ∀ (s : Shared) (H : Hp) (C : Addr) (cl : List (Str × Addr)) (fp : List Addr), PG (X.blk s H scope (compEnvC scope cl C X.env) fp) tg (upG X.K vs g)) (ht : ∀ (s : Shared) (H : Hp) (C : Addr) (cl : List (Str × Addr)) (fp : List Addr), PTs (X.blk s H scope (compEnvC scope cl C X.env) fp) ifs (upT X.K W0 tt))
    (hi1 : ∀ (s : Shared) (H : Hp) (C : Addr) (cl : List (Str × Addr)) (fp : List Addr), PI (X.blk s H scope (compEnvC scope cl C X.env) fp) tg1 iter1 (upI X.K W0 src1))
    (hg1 : ∀ (s : Shared) (H : Hp) (C : Addr) (cl : List (Str × Addr)) (fp : List Addr), PG (X.blk s H scope (compEnvC scope cl C X.env) fp) tg1 (upG X.K vs1 g1)) (ht1 : ∀ (s : Shared) (H : Hp) (C : Addr) (cl : List (Str × Addr)) (fp : List Addr), PTs (X.blk s H scope (compEnvC scope cl C X.env) fp) ifs1 (upT X.K W0 tt1))
    (he : ∀ (s : Shared) (H : Hp) (C : Addr) (cl : List (Str × Addr)) (fp : List Addr), PE (X.blk s H scope (compEnvC scope cl C X.env) fp) elt (up X.K W0 te)) (hs : ∀ x, foldedSetIterable iter X.env x = pure x := by intro _; rfl) (hs1 : ∀ env x, foldedSetIterable iter1 env x = pure x := by intro _ _; rfl) :
    PE X (.ListComp elt [⟨tg, iter, ifs, 0⟩, ⟨tg1, iter1, ifs1, 0⟩] scope pos) (upF X.K W (dLc2 src g tt src1 g1 tt1 te vs vs1)) := by
  subst hv
  exact pe_conv (pe_lc2 hc hN hi ok hv1 hg ht hi1 hg1 ht1 he hs hs1) fun _ _ _ => sim_lc2
/-- name = [..] on one line, the name a local: plain data, or a mutable thing -/
theorem ds_setLc {fr : Bool} {i : Nat} {y : Str} {py spos : Pos} (vs : List Nat) (hv : own.map (·.2) = vs) (hc : X.calm = true) (hN : X.N.Nodup) (hy : X.N[i]? = some y) (hyl : X.env.scope.names.lookup y = some .local)
    (hsw : swapsWith (.ListComp elt [⟨tg, iter, ifs, 0⟩] scope pos) (some (.Name y py)) spos.line X.env = pure true) (hi : PI X tg iter (upI X.K W src)) (ok : BlkOk X.N X.env.scope scope own)
    (hg : ∀ (s : Shared) (H : Hp) (C : Addr) (cl : List (Str × Addr)) (fp : List Addr), PG (X.blk s H scope (compEnvC scope cl C X.env) fp) tg (upG X.K vs g)) (ht : ∀ (s : Shared) (H : Hp) (C : Addr) (cl : List (Str × Addr)) (fp : List Addr), PTs (X.blk s H scope (compEnvC scope cl C X.env) fp) ifs (upT X.K W0 tt))
    (he : ∀ (s : Shared) (H : Hp) (C : Addr) (cl : List (Str × Addr)) (fp : List Addr), PE (X.blk s H scope (compEnvC scope cl C X.env) fp) elt (up X.K W0 te)) (hs : ∀ x, foldedSetIterable iter X.env x = pure x := by intro _; rfl) :
    PS X (.Assign [.Name y py] (.ListComp elt [⟨tg, iter, ifs, 0⟩] scope pos) spos) (upS X.K W fr (sAsg i (dLc src g tt te vs))) := by
  subst hv
  refine ps_conv (ps_setLc hc hN hy hyl hsw hi ok hg ht he hs) fun D σ H h => ?_
  obtain ⟨C, M, env, k, R, h, hn, hr, hx, _⟩ := h
  refine sim_lc (up_of_upF ⟨C, M, env, _, _, R, h, fun d e1 v H1 M1 h1 R1 k1 g1 r1 => hn _ _ H1 M1 h1 (R1.storeF r1) k1 g1, fun e env' H' M' xe R' k' g' => hx e env' σ H' M' xe R' k' g'⟩)
end
end FX

set_option Elab.async false
set_option linter.all false
set_option maxRecDepth 100000
set_option maxHeartbeats 1000000
/-! FxF: dicts; things of ours changed; several targets -/
namespace FX
open PySem PySem.Spec PyProof.Rows L2

/-! ### dicts as lists of pairs -/
section
variable {κ : Type} [DecidableEq κ]
def asGet (kvs : List (κ × D)) (k : κ) : Option D := (kvs.find? fun p => decide (p.1 = k)).map (·.2)
def asPut (kvs : List (κ × D)) (k : κ) (d : D) : List (κ × D) :=
  if (kvs.any fun p => decide (p.1 = k)) = true then kvs.map (fun p => if p.1 = k then (p.1, d) else p) else kvs ++ [(k, d)]
theorem asGet_nil (k : κ) : asGet ([] : List (κ × D)) k = none := rfl
theorem asGet_cons (p : κ × D) (r : List (κ × D)) (k : κ) : asGet (p :: r) k = if p.1 = k then some p.2 else asGet r k := by
  unfold asGet
  rw [List.find?_cons]
  by_cases h : p.1 = k
  · simp [h]
  · simp [h]
theorem asAny_get (kvs : List (κ × D)) (k : κ) : (kvs.any fun p => decide (p.1 = k)) = (asGet kvs k).isSome := by
  induction kvs with
  | nil => rfl
  | cons p r ih =>
    rw [List.any_cons, asGet_cons, ih]
    by_cases h : p.1 = k <;> simp [h]
theorem asGet_map (kvs : List (κ × D)) (k j : κ) (d : D) : asGet (kvs.map fun p => if p.1 = k then (p.1, d) else p) j = (asGet kvs j).map fun x => if j = k then d else x := by
  induction kvs with
  | nil => rfl
  | cons p r ih =>
    rw [List.map_cons, asGet_cons, asGet_cons, ih]
    by_cases h : p.1 = k
    · rw [if_pos h]
      by_cases h2 : p.1 = j
      · simp only [if_pos h2, Option.map_some]
        rw [if_pos (h2.symm.trans h)]
      · simp only [if_neg h2]
    · rw [if_neg h]
      by_cases h2 : p.1 = j
      · simp only [if_pos h2, Option.map_some]
        rw [if_neg fun z => h (h2.trans z)]
      · simp only [if_neg h2]
theorem asGet_snoc (kvs : List (κ × D)) (k j : κ) (d : D) (h : asGet kvs k = none) : asGet (kvs ++ [(k, d)]) j = if j = k then some d else asGet kvs j := by
  induction kvs with
  | nil =>
    show asGet [(k, d)] j = _
    rw [asGet_cons, asGet_nil]
    by_cases e : k = j
    · rw [if_pos e, if_pos e.symm]
    · rw [if_neg e, if_neg (Ne.symm e)]
  | cons p r ih =>
    rw [asGet_cons] at h
    by_cases hp : p.1 = k
    · rw [if_pos hp] at h; cases h
    · rw [if_neg hp] at h
      rw [List.cons_append, asGet_cons, asGet_cons, ih h]
      by_cases h2 : p.1 = j
      · rw [if_pos h2, if_pos h2, if_neg fun z => hp (h2.trans z)]
      · rw [if_neg h2, if_neg h2]
/-- what a dict holds behind a store -/
theorem asGet_put (kvs : List (κ × D)) (k j : κ) (d : D) : asGet (asPut kvs k d) j = if j = k then some d else asGet kvs j := by
  unfold asPut
  rw [asAny_get]
  cases h : asGet kvs k with
  | none =>
    rw [if_neg (by simp)]
    exact asGet_snoc kvs k j d h
  | some x =>
    rw [if_pos (by simp), asGet_map]
    by_cases e : j = k
    · subst e; rw [h, if_pos rfl]; simp
    · rw [if_neg e]
      cases asGet kvs j <;> simp [e]
theorem asPut_keys (kvs : List (κ × D)) (k : κ) (d : D) : (asPut kvs k d).map (·.1) = if (asGet kvs k).isSome = true then kvs.map (·.1) else kvs.map (·.1) ++ [k] := by
  unfold asPut
  rw [asAny_get]
  by_cases h : (asGet kvs k).isSome = true
  · rw [if_pos h, if_pos h, List.map_map]
    apply List.map_congr_left
    intro p _
    show (if p.1 = k then (p.1, d) else p).1 = p.1
    split <;> rfl
  · rw [if_neg h, if_neg h, List.map_append]
    rfl
theorem asPut_length (kvs : List (κ × D)) (k : κ) (d : D) : (asPut kvs k d).length ≤ kvs.length + 1 := by
  unfold asPut
  split
  · rw [List.length_map]; omega
  · rw [List.length_append]; simp
theorem asGet_isSome (kvs : List (κ × D)) (k : κ) : (asGet kvs k).isSome = true ↔ k ∈ kvs.map (·.1) := by
  rw [← asAny_get, List.any_eq_true]
  constructor
  · rintro ⟨p, hp, e⟩
    exact List.mem_map.mpr ⟨p, hp, of_decide_eq_true e⟩
  · intro h
    obtain ⟨p, hp, e⟩ := List.mem_map.mp h
    exact ⟨p, hp, decide_eq_true e⟩
end
theorem kI_inj {a b : Int} (h : kI a = kI b) : a = b := Sum.inl.inj h
theorem kT_inj : ∀ {a b : List Int}, kT a = kT b → a = b
  | [], [], _ => rfl
  | [], _ :: _, h => by cases h
  | _ :: _, [], h => by cases h
  | x :: a, y :: b, h => by
    have h : kI x :: kT a = kI y :: kT b := h
    obtain ⟨h1, h2⟩ := List.cons.inj h
    rw [kI_inj h1, kT_inj h2]
theorem kT_tup (ns : List Int) : (kT ns).map kV = ns.map V.int := by
  unfold kT
  rw [List.map_map]
  rfl
section
variable {K : PySem.W.Frag} {Av : AS} {H : Hp}
theorem RepI.val {k : Int} : ∀ {kvs : List (Int × D)} {ws : List (Key × V)}, RepI K Av H kvs ws →
    (asGet kvs k = none ∧ valV ws (kI k) = none) ∨ ∃ d v, asGet kvs k = some d ∧ valV ws (kI k) = some v ∧ Rep K Av H d v
  | [], _, h => by cases h; exact .inl ⟨rfl, rfl⟩
  | (j, d) :: kvs, _, ⟨v, r, e, h1, h2⟩ => by
    subst e
    by_cases h : j = k
    · subst h
      exact .inr ⟨d, v, by rw [asGet_cons, if_pos rfl], valV_pos rfl, h1⟩
    · have hk : ¬ kI j = kI k := fun z => h (kI_inj z)
      rw [asGet_cons, if_neg h, valV_neg (p := (kI j, v)) hk]
      exact RepI.val h2
theorem RepT.val {k : List Int} : ∀ {kvs : List (List Int × D)} {ws : List (List Key × V)}, RepT K Av H kvs ws →
    (asGet kvs k = none ∧ valV ws (kT k) = none) ∨ ∃ d v, asGet kvs k = some d ∧ valV ws (kT k) = some v ∧ Rep K Av H d v
  | [], _, h => by cases h; exact .inl ⟨rfl, rfl⟩
  | (j, d) :: kvs, _, ⟨v, r, e, h1, h2⟩ => by
    subst e
    by_cases h : j = k
    · subst h
      exact .inr ⟨d, v, by rw [asGet_cons, if_pos rfl], valV_pos rfl, h1⟩
    · have hk : ¬ kT j = kT k := fun z => h (kT_inj z)
      rw [asGet_cons, if_neg h, valV_neg (p := (kT j, v)) hk]
      exact RepT.val h2
theorem RepI.put {k : Int} {d : D} {v : V} {kvs : List (Int × D)} {ws : List (Key × V)} (r : RepI K Av H kvs ws) (rd : Rep K Av H d v) : RepI K Av H (asPut kvs k d) (putK ws (kI k) v) := by
  unfold asPut putK
  have e : (kvs.any fun p => decide (p.1 = k)) = (ws.any fun kv => decide (kv.1 = kI k)) := by
    rw [asAny_get, valV_any]
    rcases r.val (k := k) with ⟨h1, h2⟩ | ⟨d, v, h1, h2, _⟩ <;> rw [h1, h2] <;> rfl
  rw [← e]
  have m : ∀ {kvs : List (Int × D)} {ws : List (Key × V)}, RepI K Av H kvs ws → RepI K Av H (kvs.map fun p => if p.1 = k then (p.1, d) else p) (ws.map fun kv => if kv.1 = kI k then (kv.1, v) else kv) := by
    intro kvs
    induction kvs with
    | nil => intro ws h; cases h; rfl
    | cons p kvs ih =>
      obtain ⟨j, d'⟩ := p
      intro ws ⟨v', r', e', h1, h2⟩
      subst e'
      by_cases h : j = k
      · subst h
        simp only [List.map_cons, if_true]
        exact ⟨v, _, rfl, rd, ih h2⟩
      · have hk : ¬ kI j = kI k := fun z => h (kI_inj z)
        simp only [List.map_cons, if_neg h, if_neg hk]
        exact ⟨v', _, rfl, h1, ih h2⟩
  have ap : ∀ {kvs : List (Int × D)} {ws : List (Key × V)}, RepI K Av H kvs ws → RepI K Av H (kvs ++ [(k, d)]) (ws ++ [(kI k, v)]) := by
    intro kvs
    induction kvs with
    | nil => intro ws h; cases h; exact ⟨v, [], rfl, rd, rfl⟩
    | cons p kvs ih =>
      obtain ⟨j, d'⟩ := p
      intro ws ⟨v', r', e', h1, h2⟩
      subst e'
      exact ⟨v', _, rfl, h1, ih h2⟩
  split
  · exact m r
  · exact ap r
theorem RepT.put {k : List Int} {d : D} {v : V} {kvs : List (List Int × D)} {ws : List (List Key × V)} (r : RepT K Av H kvs ws) (rd : Rep K Av H d v) : RepT K Av H (asPut kvs k d) (putK ws (kT k) v) := by
  unfold asPut putK
  have e : (kvs.any fun p => decide (p.1 = k)) = (ws.any fun kv => decide (kv.1 = kT k)) := by
    rw [asAny_get, valV_any]
    rcases r.val (k := k) with ⟨h1, h2⟩ | ⟨d, v, h1, h2, _⟩ <;> rw [h1, h2] <;> rfl
  rw [← e]
  have m : ∀ {kvs : List (List Int × D)} {ws : List (List Key × V)}, RepT K Av H kvs ws → RepT K Av H (kvs.map fun p => if p.1 = k then (p.1, d) else p) (ws.map fun kv => if kv.1 = kT k then (kv.1, v) else kv) := by
    intro kvs
    induction kvs with
    | nil => intro ws h; cases h; rfl
    | cons p kvs ih =>
      obtain ⟨j, d'⟩ := p
      intro ws ⟨v', r', e', h1, h2⟩
      subst e'
      by_cases h : j = k
      · subst h
        simp only [List.map_cons, if_true]
        exact ⟨v, _, rfl, rd, ih h2⟩
      · have hk : ¬ kT j = kT k := fun z => h (kT_inj z)
        simp only [List.map_cons, if_neg h, if_neg hk]
        exact ⟨v', _, rfl, h1, ih h2⟩
  have ap : ∀ {kvs : List (List Int × D)} {ws : List (List Key × V)}, RepT K Av H kvs ws → RepT K Av H (kvs ++ [(k, d)]) (ws ++ [(kT k, v)]) := by
    intro kvs
    induction kvs with
    | nil => intro ws h; cases h; exact ⟨v, [], rfl, rd, rfl⟩
    | cons p kvs ih =>
      obtain ⟨j, d'⟩ := p
      intro ws ⟨v', r', e', h1, h2⟩
      subst e'
      exact ⟨v', _, rfl, h1, ih h2⟩
  split
  · exact m r
  · exact ap r
end

def intsOf : List D → Option (List Int)
  | [] => some []
  | .int n :: ds => (intsOf ds).map (n :: ·)
  | _ => none
/-- a dict asked: none, the dict has no such key kind -/
def dgetD : D → D → Option (Option D)
  | .dI kvs, .int k => some (asGet kvs k)
  | .dT kvs, .tup ds => (intsOf ds).map fun ns => asGet kvs ns
  | _, _ => none
theorem ints_mapM : ∀ {ds : List D} {ns : List Int}, intsOf ds = some ns → ds = ns.map D.int
  | [], ns, h => by cases h; rfl
  | .int n :: ds, ns, h => by
    cases e : intsOf ds with
    | none => rw [intsOf, e] at h; cases h
    | some ms =>
      rw [intsOf, e] at h
      cases h
      rw [ints_mapM e]; rfl
  | .non :: _, _, h | .bl _ :: _, _, h | .str _ :: _, _, h | .tup _ :: _, _, h | .lst _ :: _, _, h | .dI _ :: _, _, h | .dT _ :: _, _, h | .scr _ :: _, _, h | .obj _ _ :: _, _, h => by cases h
theorem intsOf_map (ns : List Int) : intsOf (ns.map D.int) = some ns := by
  induction ns with
  | nil => rfl
  | cons n ns ih => rw [List.map_cons, intsOf, ih]; rfl
theorem dget_I (kvs : List (Int × D)) (k : Int) : dgetD (.dI kvs) (.int k) = some (asGet kvs k) := rfl
theorem dget_T (kvs : List (List Int × D)) (ns : List Int) : dgetD (.dT kvs) (.tup (ns.map .int)) = some (asGet kvs ns) := by
  show (intsOf (ns.map D.int)).map _ = _
  rw [intsOf_map]; rfl
section
variable {K : PySem.W.Frag} {Av : AS} {H : Hp}
theorem dget_rep {c k : D} {x y : V} {o : Option D} (rc : Rep K Av H c x) (rk : Rep K Av H k y) (h : dgetD c k = some o) :
    ∃ a r, x = .ref a ∧ DGet H a y r ∧ ((o = none ∧ r = none) ∨ ∃ d v, o = some d ∧ r = some v ∧ Rep K Av H d v) := by
  cases c with
  | dI kvs =>
    cases k with
    | int n =>
      cases h
      obtain ⟨a, ws, rfl, na, ha, r⟩ := rc
      have rk : y = .int n := rk
      subst rk
      refine ⟨a, _, rfl, .inl ⟨ws, kI n, ha, rfl, rfl⟩, ?_⟩
      rcases r.val (k := n) with ⟨h1, h2⟩ | ⟨d, v, h1, h2, h3⟩
      · exact .inl ⟨h1, h2⟩
      · exact .inr ⟨d, v, h1, h2, h3⟩
    | non | bl _ | str _ | tup _ | lst _ | dI _ | dT _ | scr _ | obj _ _ => cases h
  | dT kvs =>
    cases k with
    | tup ds =>
      have h : (intsOf ds).map (fun ns => asGet kvs ns) = some o := h
      cases e : intsOf ds with
      | none => rw [e] at h; cases h
      | some ns =>
        rw [e] at h
        have h : some (asGet kvs ns) = some o := h
        cases h
        have e := ints_mapM e
        subst e
        obtain ⟨a, ws, rfl, na, ha, r⟩ := rc
        obtain ⟨b, vs, rfl, nb, hb, rb⟩ := rk
        have := Reps.ints.mp rb
        subst this
        refine ⟨a, _, rfl, .inr ⟨ws, kT ns, b, ha, rfl, by rw [kT_tup]; exact hb, rfl⟩, ?_⟩
        rcases r.val (k := ns) with ⟨h1, h2⟩ | ⟨d, v, h1, h2, h3⟩
        · exact .inl ⟨h1, h2⟩
        · exact .inr ⟨d, v, h1, h2, h3⟩
    | non | bl _ | int _ | str _ | lst _ | dI _ | dT _ | scr _ | obj _ _ => cases h
  | non | bl _ | int _ | str _ | tup _ | lst _ | scr _ | obj _ _ => cases k <;> cases h
end
def dItem (f : D → D → Option D) (ta tb : DE) : DE := dOp f ta tb
def itemDict (c k : D) : Option D := (dgetD c k).bind id
def inDict (k c : D) : Option D := (dgetD c k).map fun o => .bl o.isSome
def notInDict (k c : D) : Option D := (dgetD c k).map fun o => .bl (!o.isSome)
def dGet1 (t u : DE) : DE := fun env k x => t env (fun c e => u e (fun j e2 => ∃ o, dgetD c j = some o ∧ k (o.getD .non) e2) x) x
def dGet2 (t u w : DE) : DE := fun env k x => t env (fun c e => u e (fun j e2 => w e2 (fun z e3 => ∃ o, dgetD c j = some o ∧ k (o.getD z) e3) x) x) x
section
variable {X : Cx} {W : HW} {e e2 e3 : Expr} {pos apos : Pos} {t u w : DE}
theorem de_item (hu : X.A.units + 1 < cLine) (ho : PE X e (up X.K W t)) (hi : PE X e2 (up X.K W u)) (hs : NoSl e2) : PE X (.Subscript e e2 pos) (up X.K W (dOp itemDict t u)) := by
  refine pe_conv (pe_dget hu ho hi hs) fun σ H Q h => ?_
  obtain ⟨C, M, env, k, x, R, h, hk, hx⟩ := h
  refine ⟨C, M, env, _, x, R, h, fun a e1 va H1 M1 h1 R1 k1 g1 r1 => ?_, hx⟩
  refine ⟨C, M1, e1, _, x, R1, h1, fun b e2 vb H2 M2 h2 R2 k2 g2 r2 => ?_, fun e env' H' M' xe R' k' g' => hx e env' H' M' xe R' (k1.trans g1 k') (Grow.trans k1 g1 g')⟩
  obtain ⟨d, hd, kd⟩ := h2
  unfold itemDict at hd
  cases q : dgetD a b with
  | none => rw [q] at hd; cases hd
  | some o =>
    rw [q] at hd
    have hd : o = some d := hd
    subst hd
    obtain ⟨c, r, rfl, g, z⟩ := dget_rep (k2.rep g2 r1) r2 q
    rcases z with ⟨z, _⟩ | ⟨d', v, z, rfl, rv⟩
    · cases z
    · cases z
      exact ⟨c, v, rfl, g, hk _ _ _ H2 M2 kd R2 (k1.trans g1 k2) (Grow.trans k1 g1 g2) rv⟩
theorem sim_din {K : PySem.W.Frag} {σ : L2.St} {H : Hp} {Q : VK} (h : up K W (dOp inDict t u) σ H Q) : tDIn (up K W t) (up K W u) σ H Q := by
  obtain ⟨C, M, env, k, x, R, h, hk, hx⟩ := h
  refine ⟨C, M, env, _, x, R, h, fun a e1 va H1 M1 h1 R1 k1 g1 r1 => ?_, hx⟩
  refine ⟨C, M1, e1, _, x, R1, h1, fun b e2 vb H2 M2 h2 R2 k2 g2 r2 => ?_, fun e env' H' M' xe R' k' g' => hx e env' H' M' xe R' (k1.trans g1 k') (Grow.trans k1 g1 g')⟩
  obtain ⟨d, hd, kd⟩ := h2
  unfold inDict at hd
  cases q : dgetD b a with
  | none => rw [q] at hd; cases hd
  | some o =>
    rw [q] at hd
    have hd : D.bl o.isSome = d := Option.some.inj hd
    subst hd
    obtain ⟨c, r, rfl, g, z⟩ := dget_rep r2 (k2.rep g2 r1) q
    refine ⟨c, r, rfl, g, hk _ _ _ H2 M2 kd R2 (k1.trans g1 k2) (Grow.trans k1 g1 g2) ?_⟩
    rcases z with ⟨rfl, rfl⟩ | ⟨d', v, rfl, rfl, rv⟩ <;> rfl
theorem sim_dnotin {K : PySem.W.Frag} {σ : L2.St} {H : Hp} {Q : VK} (h : up K W (dOp notInDict t u) σ H Q) : tDNotIn (up K W t) (up K W u) σ H Q := by
  obtain ⟨C, M, env, k, x, R, h, hk, hx⟩ := h
  refine ⟨C, M, env, _, x, R, h, fun a e1 va H1 M1 h1 R1 k1 g1 r1 => ?_, hx⟩
  refine ⟨C, M1, e1, _, x, R1, h1, fun b e2 vb H2 M2 h2 R2 k2 g2 r2 => ?_, fun e env' H' M' xe R' k' g' => hx e env' H' M' xe R' (k1.trans g1 k') (Grow.trans k1 g1 g')⟩
  obtain ⟨d, hd, kd⟩ := h2
  unfold notInDict at hd
  cases q : dgetD b a with
  | none => rw [q] at hd; cases hd
  | some o =>
    rw [q] at hd
    have hd : D.bl (!o.isSome) = d := Option.some.inj hd
    subst hd
    obtain ⟨c, r, rfl, g, z⟩ := dget_rep r2 (k2.rep g2 r1) q
    refine ⟨c, r, rfl, g, hk _ _ _ H2 M2 kd R2 (k1.trans g1 k2) (Grow.trans k1 g1 g2) ?_⟩
    rcases z with ⟨rfl, rfl⟩ | ⟨d', v, rfl, rfl, rv⟩ <;> rfl
theorem de_din (hu : X.A.units + 1 < cLine) (hi : PE X e (up X.K W t)) (ho : PE X e2 (up X.K W u)) (h1 : behindInMarks .In e2 = false := by rfl) : PE X (.Compare e [.In] [e2] pos) (up X.K W (dOp inDict t u)) := pe_conv (pe_cmp (pc_din hu hi ho) h1) fun _ _ _ => sim_din
theorem de_dnotin (hu : X.A.units + 1 < cLine) (hi : PE X e (up X.K W t)) (ho : PE X e2 (up X.K W u)) (h1 : behindInMarks .NotIn e2 = false := by rfl) : PE X (.Compare e [.NotIn] [e2] pos) (up X.K W (dOp notInDict t u)) := pe_conv (pe_cmp (pc_dnotin hu hi ho) h1) fun _ _ _ => sim_dnotin
theorem sim_test {K : PySem.W.Frag} {t : DE} {th : TE} {σ : L2.St} {H : Hp} {Q : Bool → Hp → Prop} (c : ∀ σ H Q, up K W t σ H Q → th σ H Q) (h : upT K W (dtB t) σ H Q) : th σ H fun x H1 => ∃ c, x = .bl c ∧ Q c H1 := by
  obtain ⟨C, M, env, k, x, R, h, hk, hx⟩ := h
  refine c σ H _ ⟨C, M, env, _, x, R, h, fun a e1 va H1 M1 h1 R1 k1 g1 r1 => ?_, hx⟩
  obtain ⟨b, rfl, kd⟩ := h1
  have r1 : va = .bl b := r1
  exact ⟨b, r1, hk b e1 H1 M1 kd R1 k1 g1⟩
theorem dt_din (hu : X.A.units + 1 < cLine) (hi : PE X e (up X.K W t)) (ho : PE X e2 (up X.K W u)) (h1 : behindInMarks .In e2 = false := by rfl) : PT X (.Compare e [.In] [e2] pos) (upT X.K W (dtB (dOp inDict t u))) :=
  pt_conv (pt_cmp (pc_din hu hi ho) h1) fun _ _ _ => sim_test fun _ _ _ => sim_din
theorem dt_dnotin (hu : X.A.units + 1 < cLine) (hi : PE X e (up X.K W t)) (ho : PE X e2 (up X.K W u)) (h1 : behindInMarks .NotIn e2 = false := by rfl) : PT X (.Compare e [.NotIn] [e2] pos) (upT X.K W (dtB (dOp notInDict t u))) :=
  pt_conv (pt_cmp (pc_dnotin hu hi ho) h1) fun _ _ _ => sim_test fun _ _ _ => sim_dnotin
theorem isD_of {K : PySem.W.Frag} {Av : AS} {H : Hp} {c : D} {x : V} (h : Rep K Av H c x) (hc : ∃ j o, dgetD c j = some o) : ∃ a, x = .ref a ∧ IsD H a := by
  obtain ⟨j, o, hc⟩ := hc
  cases c with
  | dI kvs => obtain ⟨a, ws, rfl, na, ha, r⟩ := h; exact ⟨a, rfl, .inl ⟨ws, ha⟩⟩
  | dT kvs => obtain ⟨a, ws, rfl, na, ha, r⟩ := h; exact ⟨a, rfl, .inr ⟨ws, ha⟩⟩
  | non | bl _ | int _ | str _ | tup _ | lst _ | scr _ | obj _ _ => cases j <;> cases hc
def isDict : D → Bool
  | .dI _ => true
  | .dT _ => true
  | _ => false
theorem isD_of' {K : PySem.W.Frag} {Av : AS} {H : Hp} {c : D} {x : V} (h : Rep K Av H c x) (hc : isDict c = true) : ∃ a, x = .ref a ∧ IsD H a := by
  cases c with
  | dI kvs => obtain ⟨a, ws, rfl, na, ha, r⟩ := h; exact ⟨a, rfl, .inl ⟨ws, ha⟩⟩
  | dT kvs => obtain ⟨a, ws, rfl, na, ha, r⟩ := h; exact ⟨a, rfl, .inr ⟨ws, ha⟩⟩
  | non | bl _ | int _ | str _ | tup _ | lst _ | scr _ | obj _ _ => cases hc
/-- d.get(k), d.get(k, z) -/
def dGetA (t u : DE) : DE := fun env k x => t env (fun c e => isDict c = true ∧ u e (fun j e2 => ∃ o, dgetD c j = some o ∧ k (o.getD .non) e2) x) x
def dGetB (t u w : DE) : DE := fun env k x => t env (fun c e => isDict c = true ∧ u e (fun j e2 => w e2 (fun z e3 => ∃ o, dgetD c j = some o ∧ k (o.getD z) e3) x) x) x
theorem de_get1 (hu : X.A.units + 1 < cLine) (ho : PE X e (up X.K W t)) (hi : PE X e2 (up X.K W u)) (m : M1 X e "get" apos e2 pos) : PE X (.Call (.Attribute e "get" apos) [e2] [] pos) (up X.K W (dGetA t u)) := by
  refine pe_conv (pe_dget1 hu ho hi m) fun σ H Q h => ?_
  obtain ⟨C, M, env, k, x, R, h, hk, hx⟩ := h
  refine ⟨C, M, env, _, x, R, h, fun a e1 va H1 M1 h1 R1 k1 g1 r1 => ?_, hx⟩
  obtain ⟨hc, h1⟩ := h1
  obtain ⟨p, rfl, isd⟩ := isD_of' r1 hc
  refine ⟨p, rfl, isd, C, M1, e1, _, x, R1, h1, fun b e2 vb H2 M2 h2 R2 k2 g2 r2 => ?_, fun e env' H' M' xe R' k' g' => hx e env' H' M' xe R' (k1.trans g1 k') (Grow.trans k1 g1 g')⟩
  obtain ⟨o, q, kd⟩ := h2
  obtain ⟨c, r, e, g, z⟩ := dget_rep (k2.rep g2 r1) r2 q
  cases e
  refine ⟨r, g, hk _ _ _ H2 M2 kd R2 (k1.trans g1 k2) (Grow.trans k1 g1 g2) ?_⟩
  rcases z with ⟨rfl, rfl⟩ | ⟨d', v, rfl, rfl, rv⟩
  · rfl
  · exact rv
theorem de_get2 (hu : X.A.units + 1 < cLine) (ho : PE X e (up X.K W t)) (hi : PE X e2 (up X.K W u)) (h3 : PE X e3 (up X.K W w)) (m : M2 X e "get" apos e2 e3 pos) : PE X (.Call (.Attribute e "get" apos) [e2, e3] [] pos) (up X.K W (dGetB t u w)) := by
  refine pe_conv (pe_dget2 hu ho hi h3 m) fun σ H Q h => ?_
  obtain ⟨C, M, env, k, x, R, h, hk, hx⟩ := h
  refine ⟨C, M, env, _, x, R, h, fun a e1 va H1 M1 h1 R1 k1 g1 r1 => ?_, hx⟩
  obtain ⟨hc, h1⟩ := h1
  obtain ⟨p, rfl, isd⟩ := isD_of' r1 hc
  refine ⟨p, rfl, isd, C, M1, e1, _, x, R1, h1, fun b e2 vb H2 M2 h2 R2 k2 g2 r2 => ?_, fun e env' H' M' xe R' k' g' => hx e env' H' M' xe R' (k1.trans g1 k') (Grow.trans k1 g1 g')⟩
  have k12 := k1.trans g1 k2
  have g12 := Grow.trans k1 g1 g2
  refine ⟨C, M2, e2, _, x, R2, h2, fun z e3 vz H3 M3 h3 R3 k3 g3 r3 => ?_, fun e env' H' M' xe R' k' g' => hx e env' H' M' xe R' (k12.trans g12 k') (Grow.trans k12 g12 g')⟩
  obtain ⟨o, q, kd⟩ := h3
  obtain ⟨c, r, e, g, z⟩ := dget_rep (k3.rep g3 (k2.rep g2 r1)) (k3.rep g3 r2) q
  cases e
  refine ⟨r, g, hk _ _ _ H3 M3 kd R3 (k12.trans g12 k3) (Grow.trans k12 g12 g3) ?_⟩
  rcases z with ⟨rfl, rfl⟩ | ⟨d', v, rfl, rfl, rv⟩
  · exact r3
  · exact rv
/-- {} -/
theorem de_newI : PE X (.Dict [] [] pos) (upF X.K W (dC (.dI []))) := by
  refine pe_conv pe_dnewK fun σ H Q h => ?_
  obtain ⟨C, M, env, k, x, R, h, hk, hx⟩ := h
  exact fun p hp => R.finF (.refl _ _) (.refl _ _) h hk p _ _ (same_new hp) hp ⟨rfl, [], upd_same, rfl⟩
theorem de_newT : PE X (.Dict [] [] pos) (upF X.K W (dC (.dT []))) := by
  refine pe_conv pe_dnewT fun σ H Q h => ?_
  obtain ⟨C, M, env, k, x, R, h, hk, hx⟩ := h
  exact fun p hp => R.finF (.refl _ _) (.refl _ _) h hk p _ _ (same_new hp) hp ⟨rfl, [], upd_same, rfl⟩
end

/-! ### things of ours, changed -/
def mineD : Option Sl → Option D
  | some (.own d) => some d
  | some (.par d) => some d
  | _ => none
def putE (env : Env) (i : Nat) (d : D) : Env := match env[i]? with
  | some s => env.set i (s.put d)
  | none => env
theorem mine_some {o : Option Sl} {d : D} (h : mineD o = some d) : ∃ s, o = some s ∧ s.mine = true ∧ (s = .own d ∨ s = .par d) := by
  cases o with
  | none => cases h
  | some s =>
    cases s with
    | no => cases h
    | frz _ => cases h
    | own e => cases h; exact ⟨_, rfl, rfl, .inl rfl⟩
    | par e => cases h; exact ⟨_, rfl, rfl, .inr rfl⟩
theorem Rel.mineL {K : PySem.W.Frag} {C : Ctx} {M : AS} {env : Env} {σ : L2.St} {H : Hp} {i : Nat} {ds : List D} (R : Rel K C M env σ H) (h : mineD env[i]? = some (.lst ds)) :
    ∃ p vs, σ[i]? = some (some (.ref p)) ∧ M p ∧ H p = some (.lst vs) ∧ Reps K (fun a => C.G a ∨ M a) H ds vs ∧
      ∀ ds' vs', Reps K (fun a => C.G a ∨ M a) H ds' vs' → Rel K C M (putE env i (.lst ds')) σ (upd H p (.lst vs')) ∧ Keep M H (upd H p (.lst vs')) := by
  obtain ⟨s, e, hm, hs⟩ := mine_some h
  obtain ⟨p, d, v, h1, h2, h3, h4, h5⟩ := R.change e hm
  have hd : d = .lst ds := by
    rcases hs with rfl | rfl <;> rcases h2 with z | z <;> cases z <;> rfl
  subst hd
  obtain ⟨rfl, vs, hp, r⟩ := h4
  refine ⟨p, vs, h1, h3, hp, r, fun ds' vs' r' => ?_⟩
  have eE : putE env i (.lst ds') = env.set i (s.put (.lst ds')) := by unfold putE; rw [e]
  rw [eE]
  refine h5 _ (.lst ds') (fun a ha => upd_ne ha) (by rw [upd_same]; trivial) ⟨rfl, vs', upd_same, ?_⟩
  exact Reps.mono (fun a o e n => by rw [upd_ne fun (z : a = p) => n (.inr (z ▸ h3))]; exact e) (fun _ _ z => z) _ _ r'
theorem Rel.mineI {K : PySem.W.Frag} {C : Ctx} {M : AS} {env : Env} {σ : L2.St} {H : Hp} {i : Nat} {ds : List (Int × D)} (R : Rel K C M env σ H) (h : mineD env[i]? = some (.dI ds)) :
    ∃ p vs, σ[i]? = some (some (.ref p)) ∧ M p ∧ H p = some (.dK vs) ∧ RepI K (fun a => C.G a ∨ M a) H ds vs ∧
      ∀ ds' vs', RepI K (fun a => C.G a ∨ M a) H ds' vs' → Rel K C M (putE env i (.dI ds')) σ (upd H p (.dK vs')) ∧ Keep M H (upd H p (.dK vs')) := by
  obtain ⟨s, e, hm, hs⟩ := mine_some h
  obtain ⟨p, d, v, h1, h2, h3, h4, h5⟩ := R.change e hm
  have hd : d = .dI ds := by
    rcases hs with rfl | rfl <;> rcases h2 with z | z <;> cases z <;> rfl
  subst hd
  obtain ⟨rfl, vs, hp, r⟩ := h4
  refine ⟨p, vs, h1, h3, hp, r, fun ds' vs' r' => ?_⟩
  have eE : putE env i (.dI ds') = env.set i (s.put (.dI ds')) := by unfold putE; rw [e]
  rw [eE]
  refine h5 _ (.dI ds') (fun a ha => upd_ne ha) (by rw [upd_same]; trivial) ⟨rfl, vs', upd_same, ?_⟩
  exact RepI.mono (fun a o e n => by rw [upd_ne fun (z : a = p) => n (.inr (z ▸ h3))]; exact e) (fun _ _ z => z) _ _ r'
theorem Rel.mineT {K : PySem.W.Frag} {C : Ctx} {M : AS} {env : Env} {σ : L2.St} {H : Hp} {i : Nat} {ds : List (List Int × D)} (R : Rel K C M env σ H) (h : mineD env[i]? = some (.dT ds)) :
    ∃ p vs, σ[i]? = some (some (.ref p)) ∧ M p ∧ H p = some (.dT vs) ∧ RepT K (fun a => C.G a ∨ M a) H ds vs ∧
      ∀ ds' vs', RepT K (fun a => C.G a ∨ M a) H ds' vs' → Rel K C M (putE env i (.dT ds')) σ (upd H p (.dT vs')) ∧ Keep M H (upd H p (.dT vs')) := by
  obtain ⟨s, e, hm, hs⟩ := mine_some h
  obtain ⟨p, d, v, h1, h2, h3, h4, h5⟩ := R.change e hm
  have hd : d = .dT ds := by
    rcases hs with rfl | rfl <;> rcases h2 with z | z <;> cases z <;> rfl
  subst hd
  obtain ⟨rfl, vs, hp, r⟩ := h4
  refine ⟨p, vs, h1, h3, hp, r, fun ds' vs' r' => ?_⟩
  have eE : putE env i (.dT ds') = env.set i (s.put (.dT ds')) := by unfold putE; rw [e]
  rw [eE]
  refine h5 _ (.dT ds') (fun a ha => upd_ne ha) (by rw [upd_same]; trivial) ⟨rfl, vs', upd_same, ?_⟩
  exact RepT.mono (fun a o e n => by rw [upd_ne fun (z : a = p) => n (.inr (z ▸ h3))]; exact e) (fun _ _ z => z) _ _ r'

def dApp (i : Nat) (te : DE) : DE := fun env k x => (∃ ds, mineD env[i]? = some (.lst ds)) ∧ te env (fun d e => ∃ ds, mineD e[i]? = some (.lst ds) ∧ ds.length < 16777216 ∧ k .non (putE e i (.lst (ds ++ [d])))) x
def dPop (i : Nat) : DE := fun env k _ => ∃ ds d, mineD env[i]? = some (.lst (ds ++ [d])) ∧ k d (putE env i (.lst ds))
def dPopAt (i : Nat) (te : DE) : DE := fun env k x => (∃ ds, mineD env[i]? = some (.lst ds)) ∧ te env (fun j e => ∃ ds n d, j = .int n ∧ mineD e[i]? = some (.lst ds) ∧ 0 ≤ n ∧ n < 1000000000 ∧ ds[n.toNat]? = some d ∧ k d (putE e i (.lst (ds.eraseIdx n.toNat)))) x
def dIns0 (i : Nat) (te : DE) : DE := fun env k x => (∃ ds, mineD env[i]? = some (.lst ds)) ∧ te env (fun d e => ∃ ds, mineD e[i]? = some (.lst ds) ∧ ds.length < 16777216 ∧ k .non (putE e i (.lst (d :: ds)))) x
/-- xs[j] = v: v first -/
def sSetL (i : Nat) (ti tv : DE) : DS := fun k env => tv env (fun d e => (∃ ds, mineD e[i]? = some (.lst ds)) ∧ ti e (fun j e2 => ∃ ds n m, j = .int n ∧ mineD e2[i]? = some (.lst ds) ∧ ixN ds.length n = some m ∧ k.nx (putE e2 i (.lst (ds.set m d)))) k.ex) k.ex
def dputD : D → D → D → Option D
  | .dI kvs, .int k, d => some (.dI (asPut kvs k d))
  | .dT kvs, .tup ds, d => (intsOf ds).map fun ns => .dT (asPut kvs ns d)
  | _, _, _ => none
theorem dput_I (kvs : List (Int × D)) (k : Int) (d : D) : dputD (.dI kvs) (.int k) d = some (.dI (asPut kvs k d)) := rfl
theorem dput_T (kvs : List (List Int × D)) (ns : List Int) (d : D) : dputD (.dT kvs) (.tup (ns.map .int)) d = some (.dT (asPut kvs ns d)) := by
  show (intsOf (ns.map D.int)).map _ = _
  rw [intsOf_map]; rfl
def sizeD : D → Nat
  | .dI kvs => kvs.length
  | .dT kvs => kvs.length
  | _ => 0
/-- d[j] = v: v first -/
def sPutD (i : Nat) (ti tv : DE) : DS := fun k env => tv env (fun d e => (∃ c, mineD e[i]? = some c ∧ isDict c = true) ∧ ti e (fun j e2 => ∃ c c', mineD e2[i]? = some c ∧ sizeD c < 16777216 ∧ dputD c j d = some c' ∧ k.nx (putE e2 i c')) k.ex) k.ex
def sAugI (i : Nat) (te : DE) : DS := fun k env => ∃ n, env[i]? = some (.frz (.int n)) ∧ te env (fun d e => ∃ m, d = .int m ∧ k.nx (e.set i (.frz (.int (n + m))))) k.ex
/-- xs += ys -/
def sAugL (i : Nat) (te : DE) : DS := fun k env => (∃ ds, mineD env[i]? = some (.lst ds)) ∧ te env (fun d e => ∃ ds es, d = .lst es ∧ mineD e[i]? = some (.lst ds) ∧ ds.length + es.length ≤ 16777216 ∧ k.nx (putE e i (.lst (ds ++ es)))) k.ex

section
variable {X : Cx} {W : HW} {fr : Bool} {e : Expr} {st : Stmt} {te ti tv : DE} {i : Nat}
theorem de_app (h : PE X e (tBM X.K "list" rAppend (tVar i) (tCons (up X.K W te) tNil))) : PE X e (up X.K W (dApp i te)) := by
  refine pe_conv h fun σ H Q h => ?_
  obtain ⟨C, M, env, k, x, R, ⟨⟨ds0, h0⟩, h⟩, hk, hx⟩ := h
  obtain ⟨p, vs, s1, m1, h1, r1, _⟩ := R.mineL h0
  refine ⟨.ref p, s1, .inl ⟨rfl, vs, SqL.of h1⟩, C, M, env, _, x, R, h, fun d e2 v H2 M2 h2 R2 k2 g2 r2 => ?_, hx⟩
  obtain ⟨ds, h3, hz, kd⟩ := h2
  obtain ⟨p2, vs2, s2, m2, hp2, rr2, w⟩ := R2.mineL h3
  rw [s1] at s2
  cases s2
  obtain ⟨R3, k3⟩ := w _ _ (rr2.append (.one r2))
  refine ⟨p, vs2, v, rfl, rfl, hp2, by rw [rr2.length, line_eq]; exact hz, hk .non _ .non _ M2 kd R3 (k2.trans g2 k3) g2 rfl⟩
theorem de_pop (h : PE X e (tBM0 X.K "list" rPop (tVar i))) : PE X e (up X.K W (dPop i)) := by
  refine pe_conv h fun σ H Q h => ?_
  obtain ⟨C, M, env, k, x, R, ⟨ds, d, h0, kd⟩, hk, hx⟩ := h
  obtain ⟨p, vs, s1, m1, h1, r1, w⟩ := R.mineL h0
  refine ⟨.ref p, s1, .inl ⟨rfl, vs, SqL.of h1⟩, ?_⟩
  have hl := r1.length
  rw [List.length_append, List.length_singleton] at hl
  have e1 : (ds ++ [d])[ds.length]? = some d := by simp
  obtain ⟨v, hv, rv⟩ := r1.get e1
  have rd : Reps X.K (fun a => C.G a ∨ M a) H ds vs.dropLast := by
    have := r1.take ds.length
    rw [List.take_left, show vs.take ds.length = vs.dropLast by rw [List.dropLast_eq_take, hl]; rfl] at this
    exact this
  obtain ⟨R3, k3⟩ := w _ _ rd
  refine ⟨p, vs, v, rfl, rfl, h1, by rw [hl, Nat.add_sub_cancel]; exact hv, hk d _ v _ M kd R3 k3 (.refl _ _) ?_⟩
  exact k3.rep (.refl _ _) rv
theorem de_popAt (h : PE X e (tBM X.K "list" rPopAt (tVar i) (tCons (up X.K W te) tNil))) : PE X e (up X.K W (dPopAt i te)) := by
  refine pe_conv h fun σ H Q h => ?_
  obtain ⟨C, M, env, k, x, R, ⟨⟨ds0, h0⟩, h⟩, hk, hx⟩ := h
  obtain ⟨p, vs, s1, m1, h1, r1, _⟩ := R.mineL h0
  refine ⟨.ref p, s1, .inl ⟨rfl, vs, SqL.of h1⟩, C, M, env, _, x, R, h, fun d e2 v H2 M2 h2 R2 k2 g2 r2 => ?_, hx⟩
  obtain ⟨ds, n, d', rfl, h3, n0, n1, hd, kd⟩ := h2
  have r2 : v = .int n := r2
  subst r2
  obtain ⟨p2, vs2, s2, m2, hp2, rr2, w⟩ := R2.mineL h3
  rw [s1] at s2
  cases s2
  obtain ⟨v', hv', rv'⟩ := rr2.get hd
  obtain ⟨R3, k3⟩ := w _ _ (rr2.eraseIdx n.toNat)
  have hl : n.toNat < ds.length := (List.getElem?_eq_some_iff.mp hd).1
  refine ⟨p, vs2, n, n.toNat, v', rfl, rfl, hp2, by omega, by omega, seqIndex_of n0 (by rw [rr2.length]; omega), hv', hk d' _ v' _ M2 kd R3 (k2.trans g2 k3) g2 (k3.rep (.refl _ _) rv')⟩
theorem de_ins0 {r : V → List V → Hp → VK → Prop} (hr : r = fun x vs H Q => ∃ (l : Addr) (xs : List V) (i : Int) (y : V), x = .ref l ∧ vs = [.int i, y] ∧ H l = some (.lst xs) ∧ xs.length < sizeLine ∧ 0 ≤ i ∧ i < 2 ^ 63 ∧
    Q .non (upd H l (.lst (xs.take i.toNat ++ [y] ++ xs.drop i.toNat)))) (h : PE X e (tBM X.K "list" r (tVar i) (tCons (tC (.int 0)) (tCons (up X.K W te) tNil)))) : PE X e (up X.K W (dIns0 i te)) := by
  subst hr
  refine pe_conv h fun σ H Q h => ?_
  obtain ⟨C, M, env, k, x, R, ⟨⟨ds0, h0⟩, h⟩, hk, hx⟩ := h
  obtain ⟨p, vs, s1, m1, h1, r1, _⟩ := R.mineL h0
  refine ⟨.ref p, s1, .inl ⟨rfl, vs, SqL.of h1⟩, C, M, env, _, x, R, h, fun d e2 v H2 M2 h2 R2 k2 g2 r2 => ?_, hx⟩
  obtain ⟨ds, h3, hz, kd⟩ := h2
  obtain ⟨p2, vs2, s2, m2, hp2, rr2, w⟩ := R2.mineL h3
  rw [s1] at s2
  cases s2
  obtain ⟨R3, k3⟩ := w (d :: ds) (v :: vs2) (.cons r2 rr2)
  refine ⟨p, vs2, 0, v, rfl, rfl, hp2, by rw [rr2.length, line_eq]; exact hz, by decide, by decide, ?_⟩
  exact hk .non _ .non _ M2 kd R3 (k2.trans g2 k3) g2 rfl
theorem ds_setL (h : PS X st (tAsg (up X.K W tv) (gSub (tVar i) (up X.K W ti) rSetL))) : PS X st (upS X.K W fr (sSetL i ti tv)) := by
  refine ps_conv h fun D σ H h => ?_
  obtain ⟨C, M, env, k, R, h, hn, hr, hx, _⟩ := h
  refine ⟨C, M, env, _, _, R, h, fun d e1 v H1 M1 h1 R1 k1 g1 r1 => ?_, fun e env' H' M' xe R' k' g' => hx e env' σ H' M' xe R' k' g'⟩
  obtain ⟨⟨ds0, h0⟩, h1⟩ := h1
  obtain ⟨p, vs, s1, m1, hp1, rr1, _⟩ := R1.mineL h0
  refine ⟨.ref p, s1, C, M1, e1, _, _, R1, h1, fun j e2 v2 H2 M2 h2 R2 k2 g2 r2 => ?_, fun e env' H' M' xe R' k' g' => hx e env' σ H' M' xe R' (k1.trans g1 k') (Grow.trans k1 g1 g')⟩
  obtain ⟨ds, n, m, rfl, h3, hm, kd⟩ := h2
  have r2 : v2 = .int n := r2
  subst r2
  obtain ⟨p2, vs2, s2, m2, hp2, rr2, w⟩ := R2.mineL h3
  rw [s1] at s2
  cases s2
  obtain ⟨R3, k3⟩ := w _ _ (rr2.set (i := m) (k2.rep g2 r1))
  exact ⟨p, vs2, n, m, rfl, rfl, hp2, by rw [rr2.length]; exact hm, hn _ _ _ M2 kd R3 ((k1.trans g1 k2).trans (Grow.trans k1 g1 g2) k3) (Grow.trans k1 g1 g2)⟩
theorem ds_putD (h : PS X st (sDPut (tVar i) (up X.K W ti) (up X.K W tv))) : PS X st (upS X.K W fr (sPutD i ti tv)) := by
  refine ps_conv h fun D σ H h => ?_
  obtain ⟨C, M, env, k, R, h, hn, hr, hx, _⟩ := h
  refine ⟨C, M, env, _, _, R, h, fun d e1 v H1 M1 h1 R1 k1 g1 r1 => ?_, fun e env' H' M' xe R' k' g' => hx e env' σ H' M' xe R' k' g'⟩
  obtain ⟨⟨c0, h0, hc0⟩, h1⟩ := h1
  have s1 : ∃ p, σ[i]? = some (some (.ref p)) := by
    cases c0 with
    | dI _ => obtain ⟨p, vs, s1, _⟩ := R1.mineI h0; exact ⟨p, s1⟩
    | dT _ => obtain ⟨p, vs, s1, _⟩ := R1.mineT h0; exact ⟨p, s1⟩
    | non | bl _ | int _ | str _ | tup _ | lst _ | scr _ | obj _ _ => cases hc0
  obtain ⟨p, s1⟩ := s1
  refine ⟨.ref p, s1, C, M1, e1, _, _, R1, h1, fun j e2 v2 H2 M2 h2 R2 k2 g2 r2 => ?_, fun e env' H' M' xe R' k' g' => hx e env' σ H' M' xe R' (k1.trans g1 k') (Grow.trans k1 g1 g')⟩
  obtain ⟨c, c', h3, hz, hput, kd⟩ := h2
  have r1' := k2.rep g2 r1
  have k12 := k1.trans g1 k2
  have g12 := Grow.trans k1 g1 g2
  cases c with
  | dI kvs =>
    obtain ⟨p2, ws, s2, m2, hp2, rr2, w⟩ := R2.mineI h3
    rw [s1] at s2
    cases s2
    cases j with
    | int n =>
      cases hput
      have r2 : v2 = .int n := r2
      subst r2
      obtain ⟨R3, k3⟩ := w _ _ (rr2.put (k := n) r1')
      exact ⟨p, _, rfl, DPut.k (k := kI n) hp2 (by rw [rr2.length, line_eq]; exact hz), hn _ _ _ M2 kd R3 (k12.trans g12 k3) g12⟩
    | non | bl _ | str _ | tup _ | lst _ | dI _ | dT _ | scr _ | obj _ _ => cases hput
  | dT kvs =>
    obtain ⟨p2, ws, s2, m2, hp2, rr2, w⟩ := R2.mineT h3
    rw [s1] at s2
    cases s2
    cases j with
    | tup ds =>
      have hput : (intsOf ds).map (fun ns => FX.D.dT (asPut kvs ns d)) = some c' := hput
      cases e : intsOf ds with
      | none => rw [e] at hput; cases hput
      | some ns =>
        rw [e] at hput
        cases hput
        have e := ints_mapM e
        subst e
        obtain ⟨b, vs, rfl, nb, hb, rb⟩ := r2
        have := Reps.ints.mp rb
        subst this
        obtain ⟨R3, k3⟩ := w _ _ (rr2.put (k := ns) r1')
        exact ⟨p, _, rfl, DPut.t (k := kT ns) hp2 (by rw [kT_tup]; exact hb) (by rw [rr2.length, line_eq]; exact hz), hn _ _ _ M2 kd R3 (k12.trans g12 k3) g12⟩
    | non | bl _ | int _ | str _ | lst _ | dI _ | dT _ | scr _ | obj _ _ => cases hput
  | non | bl _ | int _ | str _ | tup _ | lst _ | scr _ | obj _ _ => cases j <;> cases hput
theorem ds_augI (h : PS X st (tAug i (up X.K W te) (ipI fun a b => a + b))) : PS X st (upS X.K W fr (sAugI i te)) := by
  refine ps_conv h fun D σ H h => ?_
  obtain ⟨C, M, env, k, R, ⟨n, he, h⟩, hn, hr, hx, _⟩ := h
  obtain ⟨adr, _, hs⟩ := R.sl
  obtain ⟨v, h1, h2⟩ := hs i _ he
  have h2 : v = .int n := h2
  subst h2
  refine ⟨.int n, h1, C, M, env, _, _, R, h, fun d e1 v H1 M1 h1 R1 k1 g1 r1 => ?_, fun e env' H' M' xe R' k' g' => hx e env' σ H' M' xe R' k' g'⟩
  obtain ⟨m, rfl, kd⟩ := h1
  have r1 : v = .int m := r1
  subst r1
  exact ⟨n, m, rfl, rfl, hn _ _ H1 M1 kd (R1.storeF (d := .int (n + m)) (v := .int (n + m)) rfl) k1 g1⟩
theorem ds_augL (h : PS X st (tAug i (upF X.K W te) rExt2)) : PS X st (upS X.K W fr (sAugL i te)) := by
  refine ps_conv h fun D σ H h => ?_
  obtain ⟨C, M, env, k, R, ⟨⟨ds0, h0⟩, h⟩, hn, hr, hx, _⟩ := h
  obtain ⟨p, vs, s1, m1, hp1, rr1, _⟩ := R.mineL h0
  refine ⟨.ref p, s1, C, M, env, _, _, R, h, fun d e1 q v H1 M1 h1 R1 k1 g1 hq c => ?_, fun e env' H' M' xe R' k' g' => hx e env' σ H' M' xe R' k' g'⟩
  obtain ⟨ds, es, rfl, h3, hz, kd⟩ := h1
  obtain ⟨rfl, ws, hw, rw'⟩ := c
  obtain ⟨p2, vs2, s2, m2, hp2, rr2, w⟩ := R1.drop.mineL h3
  rw [s1] at s2
  cases s2
  have rw2 : Reps X.K (fun a => C.G a ∨ M1 a) H1 es ws := Reps.mono (fun _ _ e _ => e) (fun a _ z => z.elim (fun z => .inl (.inl z)) .inr) _ _ rw'
  obtain ⟨R3, k3⟩ := w _ _ (rr2.append rw2)
  refine ⟨p, q, vs2, ws, rfl, rfl, hp2, hw, by rw [rr2.length, rw2.length, line_eq]; exact hz, ?_⟩
  have e1 : σ.set i (some (V.ref p)) = σ := by
    apply List.ext_getElem?
    intro j
    by_cases hj : i = j
    · subst hj; rw [set_get (List.getElem?_eq_some_iff.mp s1).1, s1]
    · rw [List.getElem?_set_ne hj]
  show D.nx (σ.set i (some (V.ref p))) _
  rw [e1]
  exact hn _ _ _ M1 kd R3 (k1.trans g1 k3) g1
end
end FX

set_option Elab.async false
set_option linter.all false
set_option maxRecDepth 100000
set_option maxHeartbeats 1000000
/-! FxG: several targets at once; dicts walked; defs and their calls -/
namespace FX
open PySem PySem.Spec PyProof.Rows L2

/-! ### a, b = x, y: plain data, or (true) new mutable things -/
def Ctx.adds (C : Ctx) (ps : List Addr) : Ctx := { C with G := fun a => C.G a ∨ a ∈ ps }
theorem adds_nil (C : Ctx) : C.adds [] = C := by
  unfold Ctx.adds
  have : (fun a => C.G a ∨ a ∈ ([] : List Addr)) = C.G := by funext a; simp
  rw [this]
theorem adds_cons (C : Ctx) (p : Addr) (ps : List Addr) : (C.add p).adds ps = C.adds (p :: ps) := by
  unfold Ctx.adds Ctx.add
  congr 1
  funext a
  simp [or_assoc]
theorem adds_add (C : Ctx) (p : Addr) (ps : List Addr) : C.adds (p :: ps) = (C.adds ps).add p := by
  unfold Ctx.adds Ctx.add
  congr 1
  funext a
  simp only [List.mem_cons, eq_iff_iff]
  constructor
  · rintro (h | h | h)
    · exact .inl (.inl h)
    · exact .inr h
    · exact .inl (.inr h)
  · rintro ((h | h) | h)
    · exact .inl h
    · exact .inr (.inr h)
    · exact .inr (.inl h)
/-- the values of several right sides -/
inductive MReps (K : PySem.W.Frag) (Av : AS) (H : Hp) : List Bool → List D → List V → List Addr → Prop
  | nil : MReps K Av H [] [] [] []
  | frz {ms ds vs ps d v} (h : Rep K Av H d v) (t : MReps K Av H ms ds vs ps) : MReps K Av H (false :: ms) (d :: ds) (v :: vs) ps
  | own {ms ds vs ps d v p} (h : Cont K Av H p d v) (t : MReps K Av H ms ds vs ps) : MReps K Av H (true :: ms) (d :: ds) (v :: vs) (p :: ps)
theorem MReps.mono {K : PySem.W.Frag} {Av Bv : AS} {H H' : Hp} {ms : List Bool} {ds : List D} {vs : List V} {ps : List Addr} (h : MReps K Av H ms ds vs ps) (hp : ∀ p ∈ ps, ∀ o, H p = some o → H' p = some o) (hk : ∀ a o, H a = some o → ¬ Av a → H' a = some o) (ha : ∀ a, H a ≠ none → Bv a → Av a) : MReps K Bv H' ms ds vs ps := by
  induction h with
  | nil => exact .nil
  | frz h t ih => exact .frz (Rep.mono hk ha _ _ h) (ih hp)
  | own h t ih => exact .own (h.mono (hp _ List.mem_cons_self) hk ha) (ih fun p hm => hp p (List.mem_cons_of_mem _ hm))
def upM (K : PySem.W.Frag) (W : HW) (ms : List Bool) (t : DA) : TA := fun σ H Q => ∃ (C : Ctx) (M : AS) (env : Env) (k : List D → Env → Prop) (x : XW), Rel K C M env σ H ∧ t env k x ∧
  (∀ ds env' vs ps H' M', k ds env' → Rel K (C.adds ps) M' env' σ H' → Keep M H H' → Grow M H M' → ps.Nodup → (∀ p ∈ ps, H p = none) → MReps K (fun a => (C.adds ps).G a ∨ M' a) H' ms ds vs ps → Q vs H') ∧
  (∀ e env' H' M', x e env' → Rel K C M' env' σ H' → Keep M H H' → Grow M H M' → W e H')
theorem Rel.drops {K : PySem.W.Frag} {M : AS} {env : Env} {σ : L2.St} {H : Hp} : ∀ {ps : List Addr} {C : Ctx}, Rel K (C.adds ps) M env σ H → Rel K C M env σ H
  | [], C, R => by rw [adds_nil] at R; exact R
  | p :: ps, C, R => by
    rw [adds_add] at R
    exact Rel.drops R.drop
section
variable {X : Cx} {W : HW} {e : Expr} {es : List Expr} {ta : DE} {t : DA} {ms : List Bool}
theorem dm_nil : PA X [] (upM X.K W [] daNil) := by
  refine pa_conv pa_nil fun σ H Q h => ?_
  obtain ⟨C, M, env, k, x, R, kd, hk, hx⟩ := h
  exact hk [] env [] [] H M kd (by rw [adds_nil]; exact R) (.refl _ _) (.refl _ _) .nil (fun _ z => nomatch z) .nil
theorem dm_frz (ha : PE X e (up X.K W ta)) (hr : PA X es (upM X.K W ms t)) (hs : starEach (e :: es) X.env = (false, eval e X.env) :: starEach es X.env := by rfl) : PA X (e :: es) (upM X.K W (false :: ms) (daCons ta t)) := by
  refine pa_conv (pa_cons ha hr hs) fun σ H Q h => ?_
  obtain ⟨C, M, env, k, x, R, h, hk, hx⟩ := h
  refine ⟨C, M, env, _, x, R, h, fun a e1 va H1 M1 h1 R1 k1 g1 r1 => ?_, hx⟩
  refine ⟨C, M1, e1, _, x, R1, h1, fun ds e2 vs ps H2 M2 h2 R2 k2 g2 nd hp r2 => ?_, fun e env' H' M' xe R' k' g' => hx e env' H' M' xe R' (k1.trans g1 k') (Grow.trans k1 g1 g')⟩
  have hp0 : ∀ p ∈ ps, H p = none := fun p hm => by
    cases q : H p with
    | none => rfl
    | some o => exact absurd (hp p hm) (k1.th p (by rw [q]; simp))
  refine hk _ e2 _ ps H2 M2 h2 R2 (k1.trans g1 k2) (Grow.trans k1 g1 g2) nd hp0 (.frz ?_ r2)
  exact Rep.mono (fun a o e n => k2.kp a o e fun z => n (.inr z)) (fun a hn z => z.elim (fun z => z.elim .inl fun z => absurd (hp a z) hn) fun z => (g2 a z).elim .inr fun q => absurd q hn) _ _ r1
theorem dm_own (ha : PE X e (upF X.K W ta)) (hr : PA X es (upM X.K W ms t)) (hs : starEach (e :: es) X.env = (false, eval e X.env) :: starEach es X.env := by rfl) : PA X (e :: es) (upM X.K W (true :: ms) (daCons ta t)) := by
  refine pa_conv (pa_cons ha hr hs) fun σ H Q h => ?_
  obtain ⟨C, M, env, k, x, R, h, hk, hx⟩ := h
  refine ⟨C, M, env, _, x, R, h, fun a e1 p va H1 M1 h1 R1 k1 g1 hpn c1 => ?_, hx⟩
  refine ⟨C.add p, M1, e1, _, x, R1, h1, fun ds e2 vs ps H2 M2 h2 R2 k2 g2 nd hp r2 => ?_, fun e env' H' M' xe R' k' g' => hx e env' H' M' xe R'.drop (k1.trans g1 k') (Grow.trans k1 g1 g')⟩
  have hp0 : ∀ q ∈ ps, H q = none := fun q hm => by
    cases z : H q with
    | none => rfl
    | some o => exact absurd (hp q hm) (k1.th q (by rw [z]; simp))
  rw [adds_cons] at R2 r2
  have np : p ∉ ps := fun z => c1.there (hp p z)
  refine hk _ e2 _ (p :: ps) H2 M2 h2 R2 (k1.trans g1 k2) (Grow.trans k1 g1 g2) (List.nodup_cons.mpr ⟨np, nd⟩) (fun q hq => (List.mem_cons.mp hq).elim (fun z => z ▸ hpn) (hp0 q)) (.own ?_ r2)
  have nm : ¬ M1 p := fun z => R1.gm p (.inr rfl) z
  refine c1.mono (fun o e => k2.kp p o e nm) (fun a o e n => k2.kp a o e fun z => n (.inr z)) fun a hn z => ?_
  rcases z with z | z
  · rcases z with z | z
    · exact .inl (.inl z)
    · rcases List.mem_cons.mp z with z | z
      · exact .inl (.inr z)
      · exact absurd (hp a z) hn
  · exact (g2 a z).elim .inr fun q => absurd q hn
end
def setM : List Bool → Env → List Nat → List D → Env
  | false :: ms, env, i :: is, d :: ds => setM ms (env.set i (.frz d)) is ds
  | true :: ms, env, i :: is, d :: ds => setM ms (env.set i (.own d)) is ds
  | _, env, _, _ => env
def setV : L2.St → List Nat → List V → L2.St
  | σ, i :: is, v :: vs => setV (σ.set i (some v)) is vs
  | σ, _, _ => σ
theorem Rel.stores {K : PySem.W.Frag} {C : Ctx} {H : Hp} : ∀ {ms : List Bool} {ds : List D} {vs : List V} {ps : List Addr} {is : List Nat} {M : AS} {env : Env} {σ : L2.St}, Rel K (C.adds ps) M env σ H → ps.Nodup → (∀ p ∈ ps, ¬ C.B p ∧ ¬ C.G p) → MReps K (fun a => (C.adds ps).G a ∨ M a) H ms ds vs ps →
    ∃ M', Rel K C M' (setM ms env is ds) (setV σ is vs) H ∧ ∀ a, M' a → M a ∨ a ∈ ps
  | _, _, _, _, is, M, env, σ, R, nd, hp, .nil => by
    rw [adds_nil] at R
    refine ⟨M, ?_, fun a h => .inl h⟩
    cases is <;> exact R
  | _, _, _, _, [], M, env, σ, R, nd, hp, .frz h t => ⟨M, Rel.drops R, fun a h => .inl h⟩
  | _, _, _, _, i :: is, M, env, σ, R, nd, hp, .frz h t => by
    obtain ⟨M', R', g⟩ := Rel.stores (is := is) (R.storeF (i := i) h) nd hp t
    exact ⟨M', R', g⟩
  | _, _, _, _, [], M, env, σ, R, nd, hp, .own h t => ⟨M, Rel.drops R, fun a h => .inl h⟩
  | _, _, _, p :: ps, i :: is, M, env, σ, R, nd, hp, .own h t => by
    rw [adds_add] at R h t
    have nd' := List.nodup_cons.mp nd
    have R1 := R.storeO (i := i) h (hp p List.mem_cons_self).1 fun z => z.elim (hp p List.mem_cons_self).2 nd'.1
    have t1 : MReps K (fun a => (C.adds ps).G a ∨ (M a ∨ a = p)) H _ _ _ ps := t.mono (fun _ _ _ e => e) (fun _ _ e _ => e) fun a _ z => by
      rcases z with z | z | z
      · exact .inl (.inl z)
      · exact .inr z
      · exact .inl (.inr z)
    obtain ⟨M', R', g⟩ := Rel.stores (is := is) R1 nd'.2 (fun q hq => hp q (List.mem_cons_of_mem _ hq)) t1
    refine ⟨M', R', fun a ha => ?_⟩
    rcases g a ha with (z | z) | z
    · exact .inl z
    · exact .inr (by rw [z]; exact List.mem_cons_self)
    · exact .inr (List.mem_cons_of_mem _ z)
/-- names = right sides -/
def sPar (ms : List Bool) (is : List Nat) (t : DA) : DS := fun k env => t env (fun ds e => k.nx (setM ms e is ds)) k.ex
theorem sim_par {K : PySem.W.Frag} {W : HW} {fr : Bool} {ms : List Bool} {is : List Nat} {t : DA} {D : Ends} {σ : L2.St} {H : Hp} (h : upS K W fr (sPar ms is t) D σ H) : upM K W ms t σ H (fun vs H1 => vs.length = ms.length ∧ D.nx (setV σ is vs) H1 ∧ ∀ p, H1 p = none → D.nx (setV σ is vs) (upd H1 p (.tup vs))) := by
  obtain ⟨C, M, env, k, R, h, hn, hr, hx, _⟩ := h
  refine ⟨C, M, env, _, _, R, h, fun ds e1 vs ps H1 M1 h1 R1 k1 g1 nd hp r1 => ?_, fun e env' H' M' xe R' k' g' => hx e env' σ H' M' xe R' k' g'⟩
  obtain ⟨M', R', g⟩ := R1.stores (is := is) nd (fun p hm => ⟨fun z => R.bh p z (hp p hm), fun z => R.gh p z (hp p hm)⟩) r1
  have gr : Grow M H M' := fun a z => (g a z).elim (g1 a) fun z => .inr (hp a z)
  refine ⟨?_, hn _ _ _ M' h1 R' k1 gr, fun q hq => hn _ _ _ M' h1 (R'.same (same_new hq)) (k1.trans g1 (.same (same_new hq))) gr⟩
  have : ∀ {ms : List Bool} {ds : List FX.D} {vs : List V} {ps : List Addr} {Av : AS}, MReps K Av H1 ms ds vs ps → vs.length = ms.length := by
    intro ms ds vs ps Av h
    induction h with
    | nil => rfl
    | frz h t ih => simp [ih]
    | own h t ih => simp [ih]
  exact this r1
section
variable {X : Cx} {W : HW} {fr : Bool} {t : DA} {a b c : Expr} {pos px py pz pt pt2 : Pos} {kt k2 : Nat}
theorem ds_par2 {i j : Nat} {x y : Str} {ms : List Bool} (hm : ms.length = 2) (h : PS X (.Assign [.Tuple [.Name x px, .Name y py] kt pt] (.Tuple [a, b] k2 pt2) pos) (tPar i j (upM X.K W ms t))) : PS X (.Assign [.Tuple [.Name x px, .Name y py] kt pt] (.Tuple [a, b] k2 pt2) pos) (upS X.K W fr (sPar ms [i, j] t)) := by
  refine ps_conv h fun D σ H h => ?_
  obtain ⟨C, M, env, k, x, R, h, hk, hx⟩ := sim_par h
  refine ⟨C, M, env, k, x, R, h, fun ds e1 vs ps H1 M1 h1 R1 k1 g1 nd hp r1 => ?_, hx⟩
  obtain ⟨hl, h2, _⟩ := hk ds e1 vs ps H1 M1 h1 R1 k1 g1 nd hp r1
  rw [hm] at hl
  match vs, hl with
  | [v, w], _ => exact ⟨v, w, rfl, h2⟩
theorem ds_par3 {i j l : Nat} {x y z : Str} {ms : List Bool} (hm : ms.length = 3) (h : PS X (.Assign [.Tuple [.Name x px, .Name y py, .Name z pz] kt pt] (.Tuple [a, b, c] k2 pt2) pos) (tPar3 i j l (upM X.K W ms t))) : PS X (.Assign [.Tuple [.Name x px, .Name y py, .Name z pz] kt pt] (.Tuple [a, b, c] k2 pt2) pos) (upS X.K W fr (sPar ms [i, j, l] t)) := by
  refine ps_conv h fun D σ H h => ?_
  obtain ⟨C, M, env, k, x, R, h, hk, hx⟩ := sim_par h
  refine ⟨C, M, env, k, x, R, h, fun ds e1 vs ps H1 M1 h1 R1 k1 g1 nd hp r1 => ?_, hx⟩
  obtain ⟨hl, h2, _⟩ := hk ds e1 vs ps H1 M1 h1 R1 k1 g1 nd hp r1
  rw [hm] at hl
  match vs, hl with
  | [u, v, w], _ => exact ⟨u, v, w, rfl, h2⟩
/-- by a tuple that is laid (names that are captured) -/
def gNames : List Nat → TGs
  | [] => gNil
  | i :: is => gCons (gName i) (gNames is)
theorem gNames_of : ∀ {is : List Nat} {vs : List V} {σ : L2.St} {H : Hp} {Q : L2.St → Hp → Prop}, vs.length = is.length → Q (setV σ is vs) H → gNames is vs σ H Q
  | [], [], _, _, _, _, q => ⟨rfl, q⟩
  | i :: is, v :: vs, σ, H, Q, hl, q => ⟨v, vs, rfl, gNames_of (is := is) (by simpa using hl) q⟩
  | [], _ :: _, _, _, _, hl, _ => by simp at hl
  | _ :: _, [], _, _, _, hl, _ => by simp at hl
theorem ds_parT {st : Stmt} {ms : List Bool} {is : List Nat} {n : Nat} (hn : ms.length = n) (hi : is.length = n) (hs : n ≤ 1000) (h : PS X st (tAsg (tTup (upM X.K W ms t)) (gTup X.K n (gNames is)))) : PS X st (upS X.K W fr (sPar ms is t)) := by
  refine ps_conv h fun D σ H h => ?_
  obtain ⟨C, M, env, k, x, R, h, hk, hx⟩ := sim_par h
  refine ⟨C, M, env, k, x, R, h, fun ds e1 vs ps H1 M1 h1 R1 k1 g1 nd hp r1 => ?_, hx⟩
  obtain ⟨hl, _, h2⟩ := hk ds e1 vs ps H1 M1 h1 R1 k1 g1 nd hp r1
  refine ⟨by rw [hl, hn, line_eq]; omega, fun p hp => ?_⟩
  exact ⟨p, vs, rfl, SqT.of upd_same, hl.trans hn, gNames_of (by rw [hl, hn, hi]) (h2 p hp)⟩
/-- names = a tuple -/
def sUnp (is : List Nat) (te : DE) : DS := fun k env => te env (fun d e => ∃ ds, d = .tup ds ∧ ds.length = is.length ∧ k.nx (setAll e is ds)) k.ex
theorem ds_unp {tg e : Expr} {te : DE} {is vs : List Nat} (he : PE X e (up X.K W te)) (hg : PG X tg (upG X.K vs (dgTup is))) (hs : swapsWithSole [tg] e pos.line X.env = pure false := by rfl) (hw : swappedStores [tg] e X.env = pure none := by rfl)
    (h1 : (assignEach [tg] X.env).map (·.2) = [assign tg X.env] := by rfl) : PS X (.Assign [tg] e pos) (upS X.K W fr (sUnp is te)) := by
  refine ps_conv (ps_asg he hg hs hw h1) fun D σ H h => ?_
  obtain ⟨C, M, env, k, R, h, hn, hr, hx, _⟩ := h
  refine ⟨C, M, env, _, _, R, h, fun d e1 v H1 M1 h1 R1 k1 g1 r1 => ?_, fun e env' H' M' xe R' k' g' => hx e env' σ H' M' xe R' k' g'⟩
  exact ⟨C, M1, e1, d, _, R1, r1, h1, fun env' σ' hq R' _ _ => hn env' σ' H1 M1 hq R' k1 g1⟩
end

/-! ### defs -/
/-- args; the value; an exception -/
abbrev F0 := List D → (D → Prop) → (Ex → Prop) → Prop
/-- the first argument is a mutable thing: what it holds behind -/
abbrev F1 := D → List D → (D → D → Prop) → (Ex → D → Prop) → Prop
def RetOk (K : PySem.W.Frag) (fr : Bool) (Av : AS) (H : Hp) (H' : Hp) (d : D) (v : V) : Prop :=
  if fr = true then ∃ p, H p = none ∧ Cont K (fun a => Av a ∨ a = p) H' p d v else Rep K Av H' d v
def spF0 (K : PySem.W.Frag) (EW : XK → HW) (fr : Bool) (φ : F0) : Sp := fun vs H Q E => ∃ (Av : AS) (ds : List D) (k : D → Prop) (x : Ex → Prop), AvT Av H ∧ Reps K Av H ds vs ∧ φ ds k x ∧
  (∀ d v H', k d → Same H H' → RetOk K fr Av H H' d v → Q v H') ∧ (∀ e H', x e → Same H H' → EW E e H')
def spF1 (K : PySem.W.Frag) (EW : XK → HW) (φ : F1) : Sp := fun vs H Q E => ∃ (Av : AS) (p : Addr) (v0 : V) (vr : List V) (d0 : D) (ds : List D) (k : D → D → Prop) (x : Ex → D → Prop), AvT Av H ∧ Av p ∧ vs = v0 :: vr ∧ Cont K Av H p d0 v0 ∧ Reps K Av H ds vr ∧ φ d0 ds k x ∧
  (∀ d d0' v H', k d d0' → Keep (fun a => a = p) H H' → Cont K Av H' p d0' v0 → RetOk K false Av H H' d v → Q v H') ∧ (∀ e d0' H', x e d0' → Keep (fun a => a = p) H H' → Cont K Av H' p d0' v0 → EW E e H')
/-- no exception leaves -/
abbrev EW0 : XK → HW := fun _ _ _ => False

section
variable {K : PySem.W.Frag} {W : HW} {C : Ctx} {M : AS} {env : Env} {σ : L2.St} {H : Hp} {Q : VK}
/-- f(..), all arguments read only -/
def dF0 (φ : F0) (t : DA) : DE := fun env k x => t env (fun ds e => φ ds (fun d => k d e) (fun y => x y e)) x
/-- f(bag, ..), the mutable thing in slot i -/
def dF1 (φ : F1) (i : Nat) (t : DA) : DE := fun env k x => (∃ c, mineD env[i]? = some c) ∧ t env (fun ds e => ∃ c, mineD e[i]? = some c ∧ φ c ds (fun d c' => k d (putE e i c')) (fun y c' => x y (putE e i c'))) x
theorem ret_fin {Av : AS} {H' : Hp} {d : D} {v : V} (R : Rel K C M env σ H) (s : Same H H') (r : RetOk K false (fun a => C.G a ∨ M a) H H' d v) : Rep K (fun a => C.G a ∨ M a) H' d v := r
theorem sim_f0 {φ : F0} {t : DA} {EW : XK → HW} {E : XK} (hW : ∀ e H, EW E e H → W e H) (hW' : ∀ e H, W e H → EW E e H) (h : up K W (dF0 φ t) σ H Q) : tCall (spF0 K EW false φ) [] E (upA K W t) σ H Q := by
  obtain ⟨C, M, env, k, x, R, h, hk, hx⟩ := h
  refine ⟨C, M, env, _, x, R, h, fun ds e1 vs H1 M1 h1 R1 k1 g1 r1 => ?_, hx⟩
  show spF0 K EW false φ (vs ++ []) H1 Q E
  rw [List.append_nil]
  refine ⟨_, ds, _, _, R1.avt, r1, h1, fun d v H' kd s r => ?_, fun e H' xe s => hW' e H' (hx e e1 H' M1 xe (R1.same s) (k1.trans g1 (.same s)) g1)⟩
  exact hk d e1 v H' M1 kd (R1.same s) (k1.trans g1 (.same s)) g1 r
theorem sim_f0F {φ : F0} {t : DA} {EW : XK → HW} {E : XK} (hW' : ∀ e H, W e H → EW E e H) (h : upF K W (dF0 φ t) σ H Q) : tCall (spF0 K EW true φ) [] E (upA K W t) σ H Q := by
  obtain ⟨C, M, env, k, x, R, h, hk, hx⟩ := h
  refine ⟨C, M, env, _, x, R, h, fun ds e1 vs H1 M1 h1 R1 k1 g1 r1 => ?_, hx⟩
  show spF0 K EW true φ (vs ++ []) H1 Q E
  rw [List.append_nil]
  refine ⟨_, ds, _, _, R1.avt, r1, h1, fun d v H' kd s r => ?_, fun e H' xe s => hW' e H' (hx e e1 H' M1 xe (R1.same s) (k1.trans g1 (.same s)) g1)⟩
  obtain ⟨p, hp, c⟩ := r
  exact R1.finF k1 g1 kd hk p v H' s hp c
theorem sim_f0D {φ : F0} {t : DA} {EW : XK → HW} {E : XK} (hW' : ∀ e H, W e H → EW E e H) (h : up K W (dF0 φ t) σ H Q) : tCall (spF0 K EW true φ) [] E (upA K W t) σ H Q := sim_f0F hW' (up_of_upF h)
theorem Rel.mineA {i : Nat} {c : D} (R : Rel K C M env σ H) (h : mineD env[i]? = some c) :
    ∃ p v, σ[i]? = some (some v) ∧ M p ∧ Cont K (fun a => C.G a ∨ M a) H p c v ∧
      ∀ H' c', Keep (fun a => a = p) H H' → Cont K (fun a => C.G a ∨ M a) H' p c' v → Rel K C M (putE env i c') σ H' ∧ Keep M H H' := by
  obtain ⟨s, e, hm, hs⟩ := mine_some h
  obtain ⟨p, d, v, h1, h2, h3, h4, h5⟩ := R.change e hm
  have hd : d = c := by
    rcases hs with rfl | rfl <;> rcases h2 with z | z <;> cases z <;> rfl
  subst hd
  refine ⟨p, v, h1, h3, h4, fun H' c' kp c => ?_⟩
  have eE : putE env i c' = env.set i (s.put c') := by unfold putE; rw [e]
  -- first change p alone, then let the rest grow
  have hu : ∃ o, H' p = some o := by
    cases q : H' p with
    | none => exact absurd q (kp.th p h4.there)
    | some o => exact ⟨o, rfl⟩
  obtain ⟨adr, ha, hsl⟩ := R.sl
  rw [eE]
  have kpM : Keep M H H' := ⟨fun a o e n => kp.kp a o e fun z => n (z ▸ h3), kp.th⟩
  refine ⟨?_, kpM⟩
  have mono : ∀ a o, H a = some o → ¬ (C.G a ∨ M a) → H' a = some o := fun a o e n => kp.kp a o e fun z => n (.inr (z ▸ h3))
  have q := hsl i s e
  have hadr : adr i = p ∨ True := .inr trivial
  have mut' : ∀ a, M a → Mut (H' a) := fun a m => by
    by_cases z : a = p
    · rw [z]; exact c.mut
    · exact mut_same (fun o e => kp.kp a o e z) (R.mm a m)
  -- the slot's own address is p
  have hip : adr i = p := by
    have v1 : v = .ref p := h4.val
    rcases hs with rfl | rfl
    · obtain ⟨v', q1, q2, q3, q4⟩ := q
      rw [h1] at q1; cases q1
      have := q4.val
      rw [v1] at this; cases this; rfl
    · obtain ⟨q1, q2, q4⟩ := q
      rw [h1] at q1
      have := q4.val
      have e3 : v = C.P i := by cases q1; rfl
      rw [← e3, v1] at this; cases this; rfl
  refine ⟨R.gm, fun a g => mut_same (fun o e => kp.kp a o e fun z => R.gm a g (z ▸ h3)) (R.gt a g), mut', fun a b => kp.th a (R.bh a b), by rw [List.length_set]; exact R.len, adr, fun j l s' t e1 e2 m1 m2 q => ?_, fun j s' e' => ?_⟩
  · have back : ∀ {j : Nat} {s' : Sl}, (env.set i (s.put c'))[j]? = some s' → s'.mine = true → ∃ s'', env[j]? = some s'' ∧ s''.mine = true := fun {j s'} e' m => by
      rcases get_set_cases e' with ⟨rfl, _, _⟩ | ⟨_, e'⟩
      · exact ⟨s, e, hm⟩
      · exact ⟨s', e', m⟩
    obtain ⟨s1, q1, n1⟩ := back e1 m1
    obtain ⟨s2, q2, n2⟩ := back e2 m2
    exact ha j l s1 s2 q1 q2 n1 n2 q
  · rcases get_set_cases e' with ⟨rfl, rfl, hl⟩ | ⟨ne, e'⟩
    · rcases hs with rfl | rfl
      · obtain ⟨v', q1, q2, q3, q4⟩ := q
        rw [h1] at q1; cases q1
        exact ⟨v, h1, q2, q3, by rw [hip]; exact c⟩
      · obtain ⟨q1, q2, q4⟩ := q
        have e3 : v = C.P i := by rw [h1] at q1; cases q1; rfl
        exact ⟨q1, q2, by rw [hip, ← e3]; exact c⟩
    · have q := hsl j s' e'
      have nadr : s'.mine = true → adr j ≠ p := fun m z => ne (ha j i s' s e' e m hm (z.trans hip.symm)).symm
      cases s' with
      | no => exact True.intro
      | frz d => obtain ⟨v, h1, h2⟩ := q; exact ⟨v, h1, Rep.mono mono (fun _ _ z => z) d v h2⟩
      | own d => obtain ⟨v, h1, h2, h3, h4⟩ := q; exact ⟨v, h1, h2, h3, h4.mono (fun o e => kp.kp _ o e (nadr rfl)) mono fun _ _ z => z⟩
      | par d => obtain ⟨h1, h2, h4⟩ := q; exact ⟨h1, h2, h4.mono (fun o e => kp.kp _ o e (nadr rfl)) mono fun _ _ z => z⟩
theorem sim_f1 {φ : F1} {i : Nat} {t : DA} {EW : XK → HW} {E : XK} (hW' : ∀ e H, W e H → EW E e H) (h : up K W (dF1 φ i t) σ H Q) : tCall (spF1 K EW φ) [] E (tCons (tVar i) (upA K W t)) σ H Q := by
  obtain ⟨C, M, env, k, x, R, ⟨⟨c0, h0⟩, h⟩, hk, hx⟩ := h
  obtain ⟨p, v, s1, m1, c1, _⟩ := R.mineA h0
  refine ⟨v, s1, C, M, env, _, x, R, h, fun ds e1 vs H1 M1 h1 R1 k1 g1 r1 => ?_, hx⟩
  show spF1 K EW φ ((v :: vs) ++ []) H1 Q E
  rw [List.append_nil]
  obtain ⟨c, h2, h1⟩ := h1
  obtain ⟨p2, v2, s2, m2, c2, w⟩ := R1.mineA h2
  rw [s1] at s2; cases s2
  refine ⟨_, p2, v, vs, c, ds, _, _, R1.avt, .inr m2, rfl, c2, r1, h1, fun d c' v' H' kd kp cc r => ?_, fun e c' H' xe kp cc => ?_⟩
  · obtain ⟨R3, k3⟩ := w H' c' kp cc
    exact hk d _ v' H' M1 kd R3 (k1.trans g1 k3) g1 r
  · obtain ⟨R3, k3⟩ := w H' c' kp cc
    exact hW' e H' (hx e _ H' M1 xe R3 (k1.trans g1 k3) g1)
end
/-! the body of a def -/
theorem rel_start0 {K : PySem.W.Frag} {Av : AS} {H : Hp} {ds : List D} {vs : List V} {N : List Str} (av : AvT Av H) (r : Reps K Av H ds vs) : Rel K ⟨Av, fun a => H a ≠ none, fun _ => .non⟩ (fun _ => False) (ds.map .frz ++ List.replicate (N.length - ds.length) .no) (L2.start N vs) H := by
  have hl := r.length
  refine ⟨fun _ _ z => z, av, fun _ z => z.elim, fun _ h => h, by unfold L2.start; simp [hl], fun _ => 0, fun i j s t e1 e2 m1 m2 _ => ?_, fun i s e => ?_⟩
  · exfalso
    rcases List.mem_append.mp (List.mem_of_getElem? e1) with h | h
    · obtain ⟨d, _, rfl⟩ := List.mem_map.mp h
      cases m1
    · rw [(List.mem_replicate.mp h).2] at m1; cases m1
  · by_cases hi : i < ds.length
    · rw [List.getElem?_append_left (by simpa using hi), List.getElem?_map, List.getElem?_eq_getElem hi] at e
      have e : Sl.frz ds[i] = s := Option.some.inj e
      subst e
      obtain ⟨v, hv, rv⟩ := r.get (List.getElem?_eq_getElem hi)
      refine ⟨v, ?_, Rep.mono (fun _ _ e _ => e) (fun _ _ z => z.elim id False.elim) _ _ rv⟩
      unfold L2.start
      rw [List.getElem?_append_left (by simpa [hl] using hi), List.getElem?_map, hv]
      rfl
    · rw [List.getElem?_append_right (by simpa using hi)] at e
      have := (List.mem_replicate.mp (List.mem_of_getElem? e)).2
      subst this
      exact True.intro
theorem rel_start1 {K : PySem.W.Frag} {Av : AS} {H : Hp} {p : Addr} {d0 : D} {v0 : V} {ds : List D} {vs : List V} {N : List Str} (av : AvT Av H) (hp : Av p) (c : Cont K Av H p d0 v0) (r : Reps K Av H ds vs) :
    Rel K ⟨fun a => Av a ∧ a ≠ p, fun a => H a ≠ none, fun _ => v0⟩ (fun a => a = p) (.par d0 :: (ds.map .frz ++ List.replicate (N.length - (ds.length + 1)) .no)) (L2.start N (v0 :: vs)) H := by
  have hl := r.length
  have hav : ∀ a, H a ≠ none → ((Av a ∧ a ≠ p) ∨ a = p) → Av a := fun a _ z => z.elim (·.1) fun z => z ▸ hp
  refine ⟨fun a g z => g.2 z, fun a g => av a g.1, fun a z => by rw [z]; exact av p hp, fun _ h => h, by unfold L2.start; simp [hl], fun _ => p, fun i j s t e1 e2 m1 m2 _ => ?_, fun i s e => ?_⟩
  · have z : ∀ {i : Nat} {s : Sl}, (Sl.par d0 :: (ds.map .frz ++ List.replicate (N.length - (ds.length + 1)) .no))[i]? = some s → s.mine = true → i = 0 := fun {i s} e m => by
      cases i with
      | zero => rfl
      | succ i =>
        exfalso
        rw [List.getElem?_cons_succ] at e
        rcases List.mem_append.mp (List.mem_of_getElem? e) with h | h
        · obtain ⟨d, _, rfl⟩ := List.mem_map.mp h
          cases m
        · rw [(List.mem_replicate.mp h).2] at m; cases m
    rw [z e1 m1, z e2 m2]
  · cases i with
    | zero =>
      rw [List.getElem?_cons_zero] at e
      have e : Sl.par d0 = s := Option.some.inj e
      subst e
      exact ⟨rfl, rfl, c.mono (fun _ e => e) (fun _ _ e _ => e) hav⟩
    | succ i =>
      rw [List.getElem?_cons_succ] at e
      by_cases hi : i < ds.length
      · rw [List.getElem?_append_left (by simpa using hi), List.getElem?_map, List.getElem?_eq_getElem hi] at e
        have e : Sl.frz ds[i] = s := Option.some.inj e
        subst e
        obtain ⟨v, hv, rv⟩ := r.get (List.getElem?_eq_getElem hi)
        refine ⟨v, ?_, Rep.mono (fun _ _ e _ => e) hav _ _ rv⟩
        show (L2.start N (v0 :: vs))[i + 1]? = _
        unfold L2.start
        rw [List.getElem?_append_left (by simpa [hl] using hi), List.getElem?_map, List.getElem?_cons_succ, hv]
        rfl
      · rw [List.getElem?_append_right (by simpa using hi)] at e
        have := (List.mem_replicate.mp (List.mem_of_getElem? e)).2
        subst this
        exact True.intro
/-- what a body is to bring -/
def endF0 (fr : Bool) (k : D → Prop) (x : Ex → Prop) : DK := { nx := fun _ => fr = false ∧ k .non, rt := fun d _ => k d, ex := fun e _ => x e }
def endF1 (k : D → D → Prop) (x : Ex → D → Prop) : DK := { nx := fun e => ∃ c, e[0]? = some (.par c) ∧ k .non c, rt := fun d e => ∃ c, e[0]? = some (.par c) ∧ k d c, ex := fun y e => ∃ c, e[0]? = some (.par c) ∧ x y c }
def envF0 (N : List Str) (ds : List D) : Env := ds.map .frz ++ List.replicate (N.length - ds.length) .no
def envF1 (N : List Str) (c : D) (ds : List D) : Env := .par c :: (ds.map .frz ++ List.replicate (N.length - (ds.length + 1)) .no)
theorem body_F0 {K : PySem.W.Frag} {EW : XK → HW} {fr : Bool} {φ : F0} {t : DS} {N : List Str} {vs : List V} {H : Hp} {Q : VK} {E : XK} (h : spF0 K EW fr φ vs H Q E) (ht : ∀ ds k x, φ ds k x → t (endF0 fr k x) (envF0 N ds)) :
    upS K (EW E) fr t { nx := fun _ H' => Q .non H', rt := Q } (L2.start N vs) H := by
  obtain ⟨Av, ds, k, x, av, r, hφ, hk, hx⟩ := h
  refine ⟨_, _, _, _, rel_start0 (N := N) av r, ht ds k x hφ, fun env' σ' H' M' kd R' kp g => ?_, fun d env' v σ' H' M' kd R' kp g z => ?_, fun e env' σ' H' M' xe R' kp g => hx e H' xe kp.toSame, fun _ _ _ _ z => z.elim, fun _ _ _ _ z => z.elim⟩
  · refine hk .non .non H' kd.2 kp.toSame ?_
    rw [kd.1]
    exact (rfl : V.non = V.non)
  · refine hk d v H' kd kp.toSame ?_
    cases fr with
    | true =>
      rw [if_pos rfl] at z
      obtain ⟨p, hB, hG, hM, c⟩ := z
      have hp : H p = none := Classical.byContradiction hB
      exact ⟨p, hp, c.mono (fun _ e => e) (fun _ _ e _ => e) fun a _ z => z.elim (fun z => .inl (.inl z)) .inr⟩
    | false =>
      rw [if_neg Bool.false_ne_true] at z
      exact Rep.mono (fun _ _ e _ => e) (fun a _ z => .inl z) _ _ z
theorem body_F1 {K : PySem.W.Frag} {EW : XK → HW} {φ : F1} {t : DS} {N : List Str} {vs : List V} {H : Hp} {Q : VK} {E : XK} (h : spF1 K EW φ vs H Q E) (ht : ∀ c ds k x, φ c ds k x → t (endF1 k x) (envF1 N c ds)) :
    upS K (EW E) false t { nx := fun _ H' => Q .non H', rt := Q } (L2.start N vs) H := by
  obtain ⟨Av, p, v0, vr, d0, ds, k, x, av, hp, rfl, c, r, hφ, hk, hx⟩ := h
  have fin : ∀ {c' : D} {env' : Env} {σ' : L2.St} {H' : Hp} {M' : AS}, env'[0]? = some (.par c') → Rel K ⟨fun a => Av a ∧ a ≠ p, fun a => H a ≠ none, fun _ => v0⟩ M' env' σ' H' → M' p ∧ Cont K Av H' p c' v0 := fun {c' env' σ' H' M'} e R' => by
    obtain ⟨adr, _, hs⟩ := R'.sl
    obtain ⟨_, q2, q3⟩ := hs 0 _ e
    have e1 := q3.val
    have e2 := c.val
    have e3 : adr 0 = p := by
      have : V.ref (adr 0) = V.ref p := e1.symm.trans e2
      cases this; rfl
    rw [e3] at q2 q3
    exact ⟨q2, q3.mono (fun _ e => e) (fun _ _ e _ => e) fun a _ z => by
      by_cases h : a = p
      · exact .inr (h ▸ q2)
      · exact .inl ⟨z, h⟩⟩
  refine ⟨_, _, _, _, rel_start1 (N := N) av hp c r, ht d0 ds k x hφ, fun env' σ' H' M' kd R' kp g => ?_, fun d env' v σ' H' M' kd R' kp g z => ?_, fun y env' σ' H' M' xe R' kp g => ?_, fun _ _ _ _ z => z.elim, fun _ _ _ _ z => z.elim⟩
  · obtain ⟨c', e, kd⟩ := kd
    obtain ⟨q2, q3⟩ := fin e R'
    exact hk .non c' .non H' kd kp q3 (rfl : V.non = V.non)
  · obtain ⟨c', e, kd⟩ := kd
    obtain ⟨q2, q3⟩ := fin e R'
    rw [if_neg Bool.false_ne_true] at z
    refine hk d c' v H' kd kp q3 (Rep.mono (fun _ _ e _ => e) (fun a _ z => ?_) _ _ z)
    by_cases h : a = p
    · exact .inr (h ▸ q2)
    · exact .inl ⟨z, h⟩
  · obtain ⟨c', e, xe⟩ := xe
    obtain ⟨q2, q3⟩ := fin e R'
    exact hx y c' H' xe kp q3
section
variable {P : Program} {w : World} {K : PySem.W.Frag} {mg : Str → Option Value} {base : Heap} {x qual : Str} {st : Stmt} {f : Addr} {fd : FuncData} {N ps : List Str} {k n : Nat}
/-- a def that raises nothing, all arguments read only -/
theorem fn_F0 {fr : Bool} {φ : F0} {t : DS} (F : Fun K x qual st f fd) (S : FnScope N ps (defScope st)) (hn : ps.length = n)
    (ht : ∀ ds k x, φ ds k x → ds.length = n ∧ t (endF0 fr k x) (envF0 N ds))
    (der : ∀ (cdv : Value) (A : Around) (outer : List PySem.Env) (s : Shared) (H : Hp) (E : XK), Room k (A.deeper (envOfC qual (defScope st) s.heap.objs.size f cdv)) → PSs (cxOf CX0 P w K mg base N qual (defScope st) f cdv A outer s H E).nox (defBody st) (upS K W0 fr t)) :
    FnOk P w K mg base CX0 (k + 1) f fd ps (spF0 K EW0 fr φ) := by
  refine F.ok S (fun vs H Q E h => ?_) fun cdv A outer s H vs Q E hr h => ⟨_, der cdv A outer s H E hr, body_F0 (EW := EW0) h fun ds k x q => (ht ds k x q).2⟩
  obtain ⟨Av, ds, k, x, av, r, hφ, _⟩ := h
  rw [r.length, (ht ds k x hφ).1, hn]
/-- .. the first argument changed -/
theorem fn_F1 {φ : F1} {t : DS} (F : Fun K x qual st f fd) (S : FnScope N ps (defScope st)) (hn : ps.length = n + 1)
    (ht : ∀ c ds k x, φ c ds k x → ds.length = n ∧ t (endF1 k x) (envF1 N c ds))
    (der : ∀ (cdv : Value) (A : Around) (outer : List PySem.Env) (s : Shared) (H : Hp) (E : XK), Room k (A.deeper (envOfC qual (defScope st) s.heap.objs.size f cdv)) → PSs (cxOf CX0 P w K mg base N qual (defScope st) f cdv A outer s H E).nox (defBody st) (upS K W0 false t)) :
    FnOk P w K mg base CX0 (k + 1) f fd ps (spF1 K EW0 φ) := by
  refine F.ok S (fun vs H Q E h => ?_) fun cdv A outer s H vs Q E hr h => ⟨_, der cdv A outer s H E hr, body_F1 (EW := EW0) h fun c ds k x q => (ht c ds k x q).2⟩
  obtain ⟨Av, p, v0, vr, d0, ds, k, x, av, hp, rfl, c, r, hφ, _⟩ := h
  rw [List.length_cons, r.length, (ht d0 ds k x hφ).1, hn]
end

/-! calls of defs that raise nothing -/
section
variable {X : Cx} {W : HW} {k : Nat} {f : Addr} {fd : FuncData} {ps : List Str} {x : Str} {p pos : Pos} {e : Expr} {es : List Expr} {t : DA}
theorem de_f0 {φ : F0} (F : FnOk X.prog X.w X.K X.mg X.base CX0 k f fd ps (spF0 X.K EW0 false φ)) (hr : Room k X.A) (hg : Gl X x) (hm : X.mg x = some (.ref f)) (hk : PySem.W.keepIn X.K (.ref f) = true) (hb : Binds X.K fd ps [])
    (ha : PA X (e :: es) (upA X.K W0 t)) (hdb : (x == ("__debug__" : Str)) = false := by decide) (he : starEach (e :: es) X.env = (false, eval e X.env) :: starEach es X.env := by rfl) (hpl : (backTo pos (starEach es X.env)).any (·.1) = false := by rfl) :
    PE X (.Call (.Name x p) (e :: es) [] pos) (up X.K W0 (dF0 φ t)) :=
  pe_conv (pe_call F hr hg hm hk hb .nil pass0 ha hdb he hpl) fun _ _ _ => sim_f0 (fun _ _ z => z) (fun _ _ z => z)
theorem de_f0F {φ : F0} (F : FnOk X.prog X.w X.K X.mg X.base CX0 k f fd ps (spF0 X.K EW0 true φ)) (hr : Room k X.A) (hg : Gl X x) (hm : X.mg x = some (.ref f)) (hk : PySem.W.keepIn X.K (.ref f) = true) (hb : Binds X.K fd ps [])
    (ha : PA X (e :: es) (upA X.K W0 t)) (hdb : (x == ("__debug__" : Str)) = false := by decide) (he : starEach (e :: es) X.env = (false, eval e X.env) :: starEach es X.env := by rfl) (hpl : (backTo pos (starEach es X.env)).any (·.1) = false := by rfl) :
    PE X (.Call (.Name x p) (e :: es) [] pos) (upF X.K W0 (dF0 φ t)) :=
  pe_conv (pe_call F hr hg hm hk hb .nil pass0 ha hdb he hpl) fun _ _ _ => sim_f0F (fun _ _ z => z)
theorem de_f1 {φ : F1} {i : Nat} {y : Str} {py : Pos} (F : FnOk X.prog X.w X.K X.mg X.base CX0 k f fd ps (spF1 X.K EW0 φ)) (hr : Room k X.A) (hg : Gl X x) (hm : X.mg x = some (.ref f)) (hk : PySem.W.keepIn X.K (.ref f) = true) (hb : Binds X.K fd ps [])
    (hy : PE X (.Name y py) (tVar i)) (ha : PA X es (upA X.K W0 t)) (hs : starEach (.Name y py :: es) X.env = (false, eval (.Name y py) X.env) :: starEach es X.env := by rfl) (hdb : (x == ("__debug__" : Str)) = false := by decide) (hpl : (backTo pos (starEach es X.env)).any (·.1) = false := by rfl) :
    PE X (.Call (.Name x p) (.Name y py :: es) [] pos) (up X.K W0 (dF1 φ i t)) :=
  pe_conv (pe_call F hr hg hm hk hb .nil pass0 (pa_cons hy ha hs) hdb hs hpl) fun _ _ _ => sim_f1 (fun _ _ z => z)
end
end FX

set_option Elab.async false
set_option linter.all false
set_option maxRecDepth 100000
set_option maxHeartbeats 1000000
/-! FxH: dicts walked; operators and built-ins over data -/
namespace FX
open PySem PySem.Spec PyProof.Rows L2

/-! ### a dict walked -/
def keysD : D → Option (List D)
  | .dI kvs => some (kvs.map fun p => .int p.1)
  | .dT kvs => some (kvs.map fun p => .tup (p.1.map .int))
  | _ => none
def diKeys (i : Nat) : DI := fun env k _ => ∃ d ks, env[i]? = some (.frz d) ∧ keysD d = some ks ∧ k ks env
section
variable {K : PySem.W.Frag} {Av : AS} {H : Hp} {a : Addr}
theorem RepI.keys : ∀ {kvs : List (Int × D)} {ws : List (Key × V)} {i : Nat} {k : Key} {v : V}, RepI K Av H kvs ws → ws[i]? = some (k, v) → ∃ n d, kvs[i]? = some (n, d) ∧ k = kI n
  | [], _, _, _, _, h, e => by cases h; simp at e
  | (n, d) :: kvs, _, 0, _, _, ⟨v', r, e', h1, h2⟩, e => by subst e'; simp at e; exact ⟨n, d, rfl, e.1.symm⟩
  | (n, d) :: kvs, _, i + 1, _, _, ⟨v', r, e', h1, h2⟩, e => by
    subst e'
    obtain ⟨n', d', q1, q2⟩ := RepI.keys (i := i) h2 (by simpa using e)
    exact ⟨n', d', by simpa using q1, q2⟩
theorem RepT.keys : ∀ {kvs : List (List Int × D)} {ws : List (List Key × V)} {i : Nat} {k : List Key} {v : V}, RepT K Av H kvs ws → ws[i]? = some (k, v) → ∃ n d, kvs[i]? = some (n, d) ∧ k = kT n
  | [], _, _, _, _, h, e => by cases h; simp at e
  | (n, d) :: kvs, _, 0, _, _, ⟨v', r, e', h1, h2⟩, e => by subst e'; simp at e; exact ⟨n, d, rfl, e.1.symm⟩
  | (n, d) :: kvs, _, i + 1, _, _, ⟨v', r, e', h1, h2⟩, e => by
    subst e'
    obtain ⟨n', d', q1, q2⟩ := RepT.keys (i := i) h2 (by simpa using e)
    exact ⟨n', d', by simpa using q1, q2⟩
theorem itok_keysI {kvs : List (Int × D)} {ws : List (Key × V)} {o : Obj} (na : ¬ Av a) (ha : H a = some (.frz o (.dK ws))) (r : RepI K Av H kvs ws) : ItOk K Av H (Itk a o ws) (kvs.map fun p => .int p.1) := by
  intro i H' Av' hk hav av
  have h' := hk a _ ha na
  have hl := r.length
  refine ⟨fun d hd => ?_, fun hi => ⟨h', by rw [hl]; simpa using hi⟩⟩
  rw [List.getElem?_map] at hd
  have hi : i < kvs.length := by
    cases e : kvs[i]? with
    | none => rw [e] at hd; cases hd
    | some p => exact (List.getElem?_eq_some_iff.mp e).1
  refine ⟨⟨h', by omega⟩, fun x H2 hy => ?_⟩
  obtain ⟨rfl, k, v, hkv, rfl⟩ := hy
  obtain ⟨n, d', q1, rfl⟩ := r.keys hkv
  rw [q1] at hd
  cases hd
  exact ⟨Same.refl _, rfl⟩
theorem itok_keysT {kvs : List (List Int × D)} {ws : List (List Key × V)} {o : Obj} (na : ¬ Av a) (ha : H a = some (.frz o (.dT ws))) (r : RepT K Av H kvs ws) : ItOk K Av H (Itkt a o ws) (kvs.map fun p => .tup (p.1.map .int)) := by
  intro i H' Av' hk hav av
  have h' := hk a _ ha na
  have hl := r.length
  refine ⟨fun d hd => ?_, fun hi => ⟨h', by rw [hl]; simpa using hi⟩⟩
  rw [List.getElem?_map] at hd
  have hi : i < kvs.length := by
    cases e : kvs[i]? with
    | none => rw [e] at hd; cases hd
    | some p => exact (List.getElem?_eq_some_iff.mp e).1
  refine ⟨⟨h', by omega⟩, fun x H2 hy => ?_⟩
  obtain ⟨rfl, k, v, q, hkv, rfl, hq⟩ := hy
  obtain ⟨n, d', q1, rfl⟩ := r.keys hkv
  rw [q1] at hd
  cases hd
  rw [kT_tup] at hq
  exact ⟨Same.refl _, q, _, rfl, av.tup hq, hq, Reps.ints.mpr rfl⟩
theorem Reps.lock {u : HO} (hT : (∃ ws, u = .dT ws) ∨ ∃ ws, u = .dK ws) {H' : Hp} (hk : ∀ b, b ≠ a → H' b = H b) (h1 : Rd H a u) (h2 : Rd H' a u) : ∀ (ds : List D) (vs : List V), Reps K Av H ds vs → Reps K Av H' ds vs
  | [], _, h => h
  | d :: ds, _, ⟨v, r, e, q1, q2⟩ => ⟨v, r, e, lock_rep hT hk h1 h2 d v q1, Reps.lock hT hk h1 h2 ds r q2⟩
theorem RepI.lock {u : HO} (hT : (∃ ws, u = .dT ws) ∨ ∃ ws, u = .dK ws) {H' : Hp} (hk : ∀ b, b ≠ a → H' b = H b) (h1 : Rd H a u) (h2 : Rd H' a u) : ∀ (ds : List (Int × D)) (vs : List (Key × V)), RepI K Av H ds vs → RepI K Av H' ds vs
  | [], _, h => h
  | (_, d) :: ds, _, ⟨v, r, e, q1, q2⟩ => ⟨v, r, e, lock_rep hT hk h1 h2 d v q1, RepI.lock hT hk h1 h2 ds r q2⟩
theorem RepT.lock {u : HO} (hT : (∃ ws, u = .dT ws) ∨ ∃ ws, u = .dK ws) {H' : Hp} (hk : ∀ b, b ≠ a → H' b = H b) (h1 : Rd H a u) (h2 : Rd H' a u) : ∀ (ds : List (List Int × D)) (vs : List (List Key × V)), RepT K Av H ds vs → RepT K Av H' ds vs
  | [], _, h => h
  | (_, d) :: ds, _, ⟨v, r, e, q1, q2⟩ => ⟨v, r, e, lock_rep hT hk h1 h2 d v q1, RepT.lock hT hk h1 h2 ds r q2⟩
theorem Cont.lock {u : HO} {p : Addr} {d : D} {v : V} (hT : (∃ ws, u = .dT ws) ∨ ∃ ws, u = .dK ws) {H' : Hp} (hk : ∀ b, b ≠ a → H' b = H b) (h1 : Rd H a u) (h2 : Rd H' a u) (np : p ≠ a) (c : Cont K Av H p d v) : Cont K Av H' p d v := by
  cases d with
  | lst ds => obtain ⟨e, vs, h, r⟩ := c; exact ⟨e, vs, by rw [hk p np]; exact h, Reps.lock hT hk h1 h2 _ _ r⟩
  | dI ds => obtain ⟨e, vs, h, r⟩ := c; exact ⟨e, vs, by rw [hk p np]; exact h, RepI.lock hT hk h1 h2 _ _ r⟩
  | dT ds => obtain ⟨e, vs, h, r⟩ := c; exact ⟨e, vs, by rw [hk p np]; exact h, RepT.lock hT hk h1 h2 _ _ r⟩
  | non | bl _ | int _ | str _ | tup _ | scr _ | obj _ _ => exact c
theorem Rd.ne {H : Hp} {a : Addr} {u : HO} (h : Rd H a u) : H a ≠ none := by
  rcases h with h | ⟨o, h⟩ <;> (rw [h]; simp)
theorem Rel.lock {C : Ctx} {M : AS} {env : Env} {σ : L2.St} {u : HO} (R : Rel K C M env σ H) (hT : (∃ ws, u = .dT ws) ∨ ∃ ws, u = .dK ws) {H' : Hp} (hk : ∀ b, b ≠ a → H' b = H b) (h1 : Rd H a u) (h2 : Rd H' a u) (ng : ¬ (C.G a ∨ M a)) : Rel K C M env σ H' := by
  obtain ⟨adr, ha, hs⟩ := R.sl
  refine ⟨R.gm, fun b g => by rw [hk b fun z => ng (.inl (z ▸ g))]; exact R.gt b g, fun b m => by rw [hk b fun z => ng (.inr (z ▸ m))]; exact R.mm b m, fun b hb => ?_, R.len, adr, ha, fun j s e => ?_⟩
  · by_cases z : b = a
    · rw [z]; exact FX.Rd.ne h2
    · rw [hk b z]; exact R.bh b hb
  · have q := hs j s e
    cases s with
    | no => exact True.intro
    | frz d => obtain ⟨v, q1, q2⟩ := q; exact ⟨v, q1, lock_rep hT hk h1 h2 d v q2⟩
    | own d => obtain ⟨v, q1, q2, q3, q4⟩ := q; exact ⟨v, q1, q2, q3, q4.lock hT hk h1 h2 fun z => ng (.inr (z ▸ q2))⟩
    | par d => obtain ⟨q1, q2, q4⟩ := q; exact ⟨q1, q2, q4.lock hT hk h1 h2 fun z => ng (.inr (z ▸ q2))⟩
end
/-- the dict in slot i is locked -/
def Locked (i : Nat) (σ : L2.St) (H : Hp) : Prop := ∃ a o u, σ[i]? = some (some (.ref a)) ∧ H a = some (.frz o u) ∧ ((∃ ws, u = .dT ws) ∨ ∃ ws, u = .dK ws)
section
variable {X : Cx} {tg e : Expr} {W : HW} {pos : Pos}
theorem keys_sim {K : PySem.W.Frag} {W : HW} {i : Nat} {σ : L2.St} {H : Hp} {Q : It → Hp → Prop} (hl : Locked i σ H) (h : upI K W (diKeys i) σ H Q) : iKeys (tVar i) σ H Q := by
  obtain ⟨C, M, env, k, x, R, ⟨d, ks, he, hd, kd⟩, hk, hx⟩ := h
  obtain ⟨adr, _, hs⟩ := R.sl
  obtain ⟨v, h1, h2⟩ := hs i _ he
  obtain ⟨a, o, u, l1, l2, l3⟩ := hl
  rw [h1] at l1
  cases l1
  refine ⟨.ref a, h1, a, o, rfl, ?_⟩
  cases d with
  | dI kvs =>
    obtain ⟨b, ws, e, nb, hb, r⟩ := h2
    cases e
    cases hd
    rcases hb with hb | ⟨o2, hb⟩
    · rw [l2] at hb; cases hb
    · have hb2 := hb
      rw [l2] at hb2; cases hb2
      exact .inl ⟨ws, hb, hk _ env _ H M kd R (.refl _ _) (.refl _ _) (itok_keysI nb hb r)⟩
  | dT kvs =>
    obtain ⟨b, ws, e, nb, hb, r⟩ := h2
    cases e
    cases hd
    rcases hb with hb | ⟨o2, hb⟩
    · rw [l2] at hb; cases hb
    · have hb2 := hb
      rw [l2] at hb2; cases hb2
      exact .inr ⟨ws, hb, hk _ env _ H M kd R (.refl _ _) (.refl _ _) (itok_keysT nb hb r)⟩
  | non | bl _ | int _ | str _ | tup _ | lst _ | scr _ | obj _ _ => cases hd
theorem pe_orC {e : Expr} {t : TE} (h : PE X e t) : PE X e (fun σ H Q => t σ H Q ∨ tLockE t σ H Q) := ⟨fun pins s σ H Q I q => q.elim (h.run pins s σ H Q I) ((pe_lock h).run pins s σ H Q I)⟩
theorem ps_orC {st : Stmt} {t : TS} (h : PS X st t) : PS X st (fun D σ H => t D σ H ∨ tLock t D σ H) := ⟨fun pins s σ H D I q => q.elim (h.run pins s σ H D I) ((ps_lock h).run pins s σ H D I)⟩
/-- what is needed of the dict in slot i: it is one -/
def isDictAt (i : Nat) (env : Env) : Prop := ∃ d, env[i]? = some (.frz d) ∧ isDict d = true
theorem slot_dict {K : PySem.W.Frag} {C : Ctx} {M : AS} {env : Env} {σ : L2.St} {H : Hp} {i : Nat} (R : Rel K C M env σ H) (h : isDictAt i env) : ∃ a u, σ[i]? = some (some (.ref a)) ∧ Rd H a u ∧ ((∃ ws, u = .dT ws) ∨ ∃ ws, u = .dK ws) ∧ ¬ (C.G a ∨ M a) := by
  obtain ⟨d, he, hd⟩ := h
  obtain ⟨adr, _, hs⟩ := R.sl
  obtain ⟨v, h1, h2⟩ := hs i _ he
  cases d with
  | dI kvs => obtain ⟨b, ws, e, nb, hb, r⟩ := h2; subst e; exact ⟨b, _, h1, hb, .inr ⟨ws, rfl⟩, nb⟩
  | dT kvs => obtain ⟨b, ws, e, nb, hb, r⟩ := h2; subst e; exact ⟨b, _, h1, hb, .inl ⟨ws, rfl⟩, nb⟩
  | non | bl _ | int _ | str _ | tup _ | lst _ | scr _ | obj _ _ => cases hd
theorem mut_dict {u : HO} (h : (∃ ws, u = .dT ws) ∨ ∃ ws, u = .dK ws) : Mut (some u) := by
  rcases h with ⟨ws, rfl⟩ | ⟨ws, rfl⟩ <;> trivial
theorem lock_same {H : Hp} {a : Addr} {u : HO} {od : Obj} : ∀ b, b ≠ a → upd H a (.frz od u) b = H b := fun b n => upd_ne n
theorem Keep.unlock {M : AS} {H H' : Hp} {a : Addr} {u : HO} {od : Obj} (ha : H a = some u) (k : Keep M (upd H a (.frz od u)) H') : Keep M H (upd H' a u) := by
  refine ⟨fun b o e n => ?_, fun b n => ?_⟩
  · by_cases z : b = a
    · subst z; rw [upd_same, ← e, ha]
    · rw [upd_ne z]; exact k.kp b o (by rw [upd_ne z]; exact e) n
  · by_cases z : b = a
    · subst z; rw [upd_same]; simp
    · rw [upd_ne z]; exact k.th b (by rw [upd_ne z]; exact n)
theorem Grow.unlock {M M' : AS} {H : Hp} {a : Addr} {u : HO} {o : HO} (ha : H a = some o) (g : Grow M (upd H a u) M') : Grow M H M' := fun b z => by
  rcases g b z with q | q
  · exact .inl q
  · by_cases y : b = a
    · subst y; rw [upd_same] at q; cases q
    · rw [upd_ne y] at q; exact .inr q
theorem sim_lockE {K : PySem.W.Frag} {i : Nat} {t : DE} {T : TE} (c : ∀ σ H Q, Locked i σ H → upF K W t σ H Q → T σ H Q) {σ : L2.St} {H : Hp} {Q : VK} (hW : ∀ e H H', W e H → W e H') (h : upF K W (fun env k x => isDictAt i env ∧ t env k x) σ H Q) : T σ H Q ∨ tLockE T σ H Q := by
  obtain ⟨C, M, env, k, x, R, ⟨hd, h⟩, hk, hx⟩ := h
  obtain ⟨a, u, s1, rd, hT, ng⟩ := slot_dict R hd
  rcases rd with ha | ⟨o, ha⟩
  · refine .inr ⟨a, u, ha, mut_dict hT, fun od => ?_⟩
    have hl : (upd H a (.frz od u)) a = some (.frz od u) := upd_same
    have R2 : Rel K C M env σ (upd H a (.frz od u)) := R.lock hT lock_same (.inl ha) (.inr ⟨od, hl⟩) ng
    refine c σ _ _ ⟨a, od, u, s1, hl, hT⟩ ⟨C, M, env, k, x, R2, h, fun d env' p v H' M' kd R' kp g hp cc => ?_, fun e env' H' M' xe R' kp g => ?_⟩
    · have ha' := kp.kp a _ hl fun z => ng (.inr z)
      have hpa : p ≠ a := fun z => by rw [z, hl] at hp; cases hp
      have ng' : ¬ ((C.add p).G a ∨ M' a) := fun z => by
        rcases z with (z | z) | z
        · exact ng (.inl z)
        · exact hpa z.symm
        · rcases g a z with q | q
          · exact ng (.inr q)
          · rw [hl] at q; cases q
      refine ⟨ha', hk d env' p v (upd H' a u) M' kd (R'.lock hT (fun b n => upd_ne n) (.inr ⟨od, ha'⟩) (.inl upd_same) ng') (kp.unlock ha) (g.unlock ha) (by rw [upd_ne hpa] at hp; exact hp) ?_⟩
      exact cc.lock hT (fun b n => upd_ne n) (.inr ⟨od, ha'⟩) (.inl upd_same) hpa
    · have ha' := kp.kp a _ hl fun z => ng (.inr z)
      have ng' : ¬ (C.G a ∨ M' a) := fun z => by
        rcases z with z | z
        · exact ng (.inl z)
        · rcases g a z with q | q
          · exact ng (.inr q)
          · rw [hl] at q; cases q
      exact hW e _ _ (hx e env' (upd H' a u) M' xe (R'.lock hT (fun b n => upd_ne n) (.inr ⟨od, ha'⟩) (.inl upd_same) ng') (kp.unlock ha) (g.unlock ha))
  · exact .inl (c σ H Q ⟨a, o, u, s1, ha, hT⟩ ⟨C, M, env, k, x, R, h, hk, hx⟩)
theorem sim_lockS {K : PySem.W.Frag} {fr : Bool} {i : Nat} {t : DS} {T : TS} (c : ∀ D σ H, Locked i σ H → upS K W fr t D σ H → T D σ H) {σ : L2.St} {H : Hp} {D : Ends} (hW : ∀ e H H', W e H → W e H') (h : upS K W fr (fun k env => isDictAt i env ∧ t k env) D σ H) : T D σ H ∨ tLock T D σ H := by
  obtain ⟨C, M, env, k, R, ⟨hd, h⟩, hn, hr, hx, hb, hc⟩ := h
  obtain ⟨a, u, s1, rd, hT, ng⟩ := slot_dict R hd
  rcases rd with ha | ⟨o, ha⟩
  · refine .inr ⟨a, u, ha, mut_dict hT, fun od => ?_⟩
    have hl : (upd H a (.frz od u)) a = some (.frz od u) := upd_same
    have R2 : Rel K C M env σ (upd H a (.frz od u)) := R.lock hT lock_same (.inl ha) (.inr ⟨od, hl⟩) ng
    have post : ∀ {env' : Env} {σ' : L2.St} {H' : Hp} {M' : AS}, Rel K C M' env' σ' H' → Keep M (upd H a (.frz od u)) H' → Grow M (upd H a (.frz od u)) M' → H' a = some (.frz od u) ∧ ¬ (C.G a ∨ M' a) ∧ Rel K C M' env' σ' (upd H' a u) ∧ Keep M H (upd H' a u) ∧ Grow M H M' := fun {env' σ' H' M'} R' kp g => by
      have ha' := kp.kp a _ hl fun z => ng (.inr z)
      have ng' : ¬ (C.G a ∨ M' a) := fun z => by
        rcases z with z | z
        · exact ng (.inl z)
        · rcases g a z with q | q
          · exact ng (.inr q)
          · rw [hl] at q; cases q
      exact ⟨ha', ng', R'.lock hT (fun b n => upd_ne n) (.inr ⟨od, ha'⟩) (.inl upd_same) ng', kp.unlock ha, g.unlock ha⟩
    refine c _ σ _ ⟨a, od, u, s1, hl, hT⟩ ⟨C, M, env, k, R2, h, fun env' σ' H' M' q R' kp g => ?_, fun d env' v σ' H' M' q R' kp g rv => ?_, fun e env' σ' H' M' q R' kp g => ?_, fun env' σ' H' M' q R' kp g => ?_, fun env' σ' H' M' q R' kp g => ?_⟩
    · obtain ⟨p1, _, p2, p3, p4⟩ := post R' kp g
      exact ⟨p1, hn env' σ' _ M' q p2 p3 p4⟩
    · obtain ⟨p1, ng', p2, p3, p4⟩ := post R' kp g
      refine ⟨p1, hr d env' v σ' _ M' q p2 p3 p4 ?_⟩
      cases fr with
      | true =>
        rw [if_pos rfl] at rv ⊢
        obtain ⟨p, b1, b2, b3, cc⟩ := rv
        have hpa : p ≠ a := fun z => by
          have := cc.mut
          rw [z, p1] at this
          exact this
        exact ⟨p, b1, b2, b3, cc.lock hT (fun b n => upd_ne n) (.inr ⟨od, p1⟩) (.inl upd_same) hpa⟩
      | false =>
        rw [if_neg Bool.false_ne_true] at rv ⊢
        exact lock_rep hT (fun b n => upd_ne n) (.inr ⟨od, p1⟩) (.inl upd_same) _ _ rv
    · obtain ⟨p1, _, p2, p3, p4⟩ := post R' kp g
      exact hW e _ _ (hx e env' σ' _ M' q p2 p3 p4)
    · obtain ⟨p1, _, p2, p3, p4⟩ := post R' kp g
      exact ⟨p1, hb env' σ' _ M' q p2 p3 p4⟩
    · obtain ⟨p1, _, p2, p3, p4⟩ := post R' kp g
      exact ⟨p1, hc env' σ' _ M' q p2 p3 p4⟩
  · exact .inl (c D σ H ⟨a, o, u, s1, ha, hT⟩ ⟨C, M, env, k, R, h, hn, hr, hx, hb, hc⟩)
/-- [.. for x in d], d the dict in slot i -/
def dLcK (i : Nat) (g : DG) (tt : DT) (te : DE) (vs : List Nat) : DE := fun env k x => isDictAt i env ∧ dLc (diKeys i) g tt te vs env k x
def sForK (i : Nat) (g : DG) (tb : DS) : DS := fun k env => isDictAt i env ∧ sFor (diKeys i) g tb k env
theorem upF_lcK {K : PySem.W.Frag} {i : Nat} {g : DG} {tt : DT} {te : DE} {vs : List Nat} {σ : L2.St} {H : Hp} {Q : VK} (hl : Locked i σ H) (h : upF K W (dLc (diKeys i) g tt te vs) σ H Q) : tLc (iKeys (tVar i)) (upG K vs g) (upT K W0 tt) (up K W0 te) vs σ H Q := by
  have h := sim_lc h
  exact keys_sim hl h
theorem de_lcK {elt : Expr} {ifs : List Expr} {scope : Scope} {own : List (Str × Nat)} {i : Nat} {g : DG} {tt : DT} {te : DE} {y : Str} {py : Pos} (vs : List Nat) (hv : own.map (·.2) = vs) (hc : X.calm = true) (hN : X.N.Nodup) (hy : PE X (.Name y py) (tVar i)) (ok : BlkOk X.N X.env.scope scope own)
    (hg : ∀ (s : Shared) (H : Hp) (C : Addr) (cl : List (Str × Addr)) (fp : List Addr), PG (X.blk s H scope (compEnvC scope cl C X.env) fp) tg (upG X.K vs g)) (ht : ∀ (s : Shared) (H : Hp) (C : Addr) (cl : List (Str × Addr)) (fp : List Addr), PTs (X.blk s H scope (compEnvC scope cl C X.env) fp) ifs (upT X.K W0 tt))
    (he : ∀ (s : Shared) (H : Hp) (C : Addr) (cl : List (Str × Addr)) (fp : List Addr), PE (X.blk s H scope (compEnvC scope cl C X.env) fp) elt (up X.K W0 te)) (hs : ∀ x, foldedSetIterable (.Name y py) X.env x = pure x := by intro _; rfl) :
    PE X (.ListComp elt [⟨tg, .Name y py, ifs, 0⟩] scope pos) (upF X.K W0 (dLcK i g tt te vs)) := by
  subst hv
  exact pe_conv (pe_orC (pe_lc hc hN (pi_keys hy) ok hg ht he hs)) fun σ H Q h => sim_lockE (i := i) (t := dLc (diKeys i) g tt te _) (fun σ H Q hl h => upF_lcK hl h) (fun _ _ _ z => z) h
theorem ds_forK {fr : Bool} {body : List Stmt} {i : Nat} {g : DG} {vs : List Nat} {tb : DS} {y : Str} {py : Pos} (hp : PassesOwn (model X.prog X.w) X.A X.env X.xe) (hc : X.calm = true) (hy : PE X (.Name y py) (tVar i)) (hg : PG X tg (upG X.K vs g)) (hb : PSs X body (upS X.K W0 fr tb))
    (hs : ∀ x, foldedSetIterable (.Name y py) X.env x = pure x := by intro _; rfl) : PS X (.For tg (.Name y py) body [] pos) (upS X.K W0 fr (sForK i g tb)) :=
  ps_conv (ps_orC (ps_for hp hc (pi_keys hy) hg hb hs)) fun D σ H h => sim_lockS (i := i) (t := sFor (diKeys i) g tb) (fun D σ H hl h => by
    have h := sim_for (vs := vs) h
    exact keys_sim hl h) (fun _ _ _ z => z) h
end
end FX

set_option Elab.async false
set_option linter.all false
set_option maxRecDepth 100000
set_option maxHeartbeats 1000000
/-! FxI: operators and built-ins over data -/
namespace FX
open PySem PySem.Spec PyProof.Rows L2

/-! ### ints -/
def addD : D → D → Option D
  | .int i, .int j => some (.int (i + j))
  | _, _ => none
def subD : D → D → Option D
  | .int i, .int j => some (.int (i - j))
  | _, _ => none
def mulD : D → D → Option D
  | .int i, .int j => if (-(2 ^ 64) < i ∧ i < 2 ^ 64) ∨ (-(2 ^ 64) < j ∧ j < 2 ^ 64) then some (.int (i * j)) else none
  | _, _ => none
def divD : D → D → Option D
  | .int i, .int j => if 0 < j ∧ j < 1073741824 then some (.int (i / j)) else none
  | _, _ => none
def modD : D → D → Option D
  | .int i, .int j => if 0 < j then some (.int (i % j)) else none
  | _, _ => none
def powD : D → D → Option D
  | .int i, .int j => if 0 ≤ j ∧ j ≤ 1000000 ∧ i.natAbs < 2 ^ 64 then some (.int (i ^ j.toNat)) else none
  | _, _ => none
def shlD : D → D → Option D
  | .int i, .int j => if 0 ≤ j ∧ j ≤ 1000000 ∧ i.natAbs < 2 ^ 64 then some (.int (i * 2 ^ j.toNat)) else none
  | _, _ => none
def shrD : D → D → Option D
  | .int i, .int j => if 0 ≤ j then some (.int (i / 2 ^ j.toNat)) else none
  | _, _ => none
def andD : D → D → Option D
  | .int i, .int j => some (.int (Builtin.bitAnd i j))
  | _, _ => none
def orD : D → D → Option D
  | .int i, .int j => some (.int (Builtin.bitOr i j))
  | _, _ => none
def leD : D → D → Option D
  | .int i, .int j => some (.bl (decide (i ≤ j)))
  | _, _ => none
def gtD : D → D → Option D
  | .int i, .int j => some (.bl (decide (j < i)))
  | _, _ => none
def geD : D → D → Option D
  | .int i, .int j => some (.bl (decide (j ≤ i)))
  | _, _ => none
def ltD : D → D → Option D
  | .int i, .int j => some (.bl (decide (i < j)))
  | .tup a, .tup b => (intsOf a).bind fun ns => (intsOf b).map fun ms => .bl (HT.lexLt ns ms)
  | _, _ => none
def negD : D → Option D
  | .int i => some (.int (-i))
  | _ => none
section
variable {K : PySem.W.Frag}
theorem bin_rI0 {f : D → D → Option D} {g : Int → Int → V} {h : Int → Int → D} (hf : ∀ a b d, f a b = some d → ∃ i j, a = .int i ∧ b = .int j ∧ d = h i j) (hr : ∀ Av H i j, Rep K Av H (h i j) (g i j)) : Bin K (rI0 g) f := ⟨fun {Av H a b d x y Q} av ra rb e q => by
  obtain ⟨i, j, rfl, rfl, rfl⟩ := hf a b d e
  exact ⟨i, j, ra, rb, q _ H (Same.refl H) (hr Av H i j)⟩⟩
theorem bin_rI {f : D → D → Option D} {C : Int → Int → Prop} {g : Int → Int → V} {h : Int → Int → D} (hf : ∀ a b d, f a b = some d → ∃ i j, a = .int i ∧ b = .int j ∧ C i j ∧ d = h i j) (hr : ∀ Av H i j, Rep K Av H (h i j) (g i j)) : Bin K (rI C g) f := ⟨fun {Av H a b d x y Q} av ra rb e q => by
  obtain ⟨i, j, rfl, rfl, c, rfl⟩ := hf a b d e
  exact ⟨i, j, ra, rb, c, q _ H (Same.refl H) (hr Av H i j)⟩⟩
theorem b_add : Bin K (rI0 fun i j => .int (i + j)) addD := bin_rI0 (h := fun i j => .int (i + j)) (fun a b d e => by cases a <;> cases b <;> cases e; exact ⟨_, _, rfl, rfl, rfl⟩) fun _ _ _ _ => rfl
theorem b_sub : Bin K (rI0 fun i j => .int (i - j)) subD := bin_rI0 (h := fun i j => .int (i - j)) (fun a b d e => by cases a <;> cases b <;> cases e; exact ⟨_, _, rfl, rfl, rfl⟩) fun _ _ _ _ => rfl
theorem b_and : Bin K (rI0 fun i j => .int (Builtin.bitAnd i j)) andD := bin_rI0 (h := fun i j => .int (Builtin.bitAnd i j)) (fun a b d e => by cases a <;> cases b <;> cases e; exact ⟨_, _, rfl, rfl, rfl⟩) fun _ _ _ _ => rfl
theorem b_or : Bin K (rI0 fun i j => .int (Builtin.bitOr i j)) orD := bin_rI0 (h := fun i j => .int (Builtin.bitOr i j)) (fun a b d e => by cases a <;> cases b <;> cases e; exact ⟨_, _, rfl, rfl, rfl⟩) fun _ _ _ _ => rfl
theorem b_le : Bin K (rI0 fun i j => .bl (decide (i ≤ j))) leD := bin_rI0 (h := fun i j => .bl (decide (i ≤ j))) (fun a b d e => by cases a <;> cases b <;> cases e; exact ⟨_, _, rfl, rfl, rfl⟩) fun _ _ _ _ => rfl
theorem b_gt : Bin K (rI0 fun i j => .bl (decide (j < i))) gtD := bin_rI0 (h := fun i j => .bl (decide (j < i))) (fun a b d e => by cases a <;> cases b <;> cases e; exact ⟨_, _, rfl, rfl, rfl⟩) fun _ _ _ _ => rfl
theorem b_ge : Bin K (rI0 fun i j => .bl (decide (j ≤ i))) geD := bin_rI0 (h := fun i j => .bl (decide (j ≤ i))) (fun a b d e => by cases a <;> cases b <;> cases e; exact ⟨_, _, rfl, rfl, rfl⟩) fun _ _ _ _ => rfl
theorem ite_some {c : Prop} [Decidable c] {α : Type} {a d : α} (h : (if c then some a else none) = some d) : c ∧ d = a := by
  split at h
  · rename_i hc; exact ⟨hc, (Option.some.inj h).symm⟩
  · cases h
theorem b_mul : Bin K (rI CMul fun i j => .int (i * j)) mulD := bin_rI (h := fun i j => .int (i * j)) (fun a b d e => by
  cases a <;> cases b <;> first | (cases e; done) | skip
  obtain ⟨c, e⟩ := ite_some e
  exact ⟨_, _, rfl, rfl, c, e⟩) fun _ _ _ _ => rfl
theorem b_div : Bin K (rI CDiv fun i j => .int (i / j)) divD := bin_rI (h := fun i j => .int (i / j)) (fun a b d e => by
  cases a <;> cases b <;> first | (cases e; done) | skip
  obtain ⟨c, e⟩ := ite_some e
  exact ⟨_, _, rfl, rfl, c, e⟩) fun _ _ _ _ => rfl
theorem b_mod : Bin K (rI (fun _ j => 0 < j) fun i j => .int (i % j)) modD := bin_rI (h := fun i j => .int (i % j)) (fun a b d e => by
  cases a <;> cases b <;> first | (cases e; done) | skip
  obtain ⟨c, e⟩ := ite_some e
  exact ⟨_, _, rfl, rfl, c, e⟩) fun _ _ _ _ => rfl
theorem b_pow : Bin K (rI CPow fun i j => .int (i ^ j.toNat)) powD := bin_rI (h := fun i j => .int (i ^ j.toNat)) (fun a b d e => by
  cases a <;> cases b <;> first | (cases e; done) | skip
  obtain ⟨c, e⟩ := ite_some e
  exact ⟨_, _, rfl, rfl, c, e⟩) fun _ _ _ _ => rfl
theorem b_shl : Bin K (rI CPow fun i j => .int (i * 2 ^ j.toNat)) shlD := bin_rI (h := fun i j => .int (i * 2 ^ j.toNat)) (fun a b d e => by
  cases a <;> cases b <;> first | (cases e; done) | skip
  obtain ⟨c, e⟩ := ite_some e
  exact ⟨_, _, rfl, rfl, c, e⟩) fun _ _ _ _ => rfl
theorem b_shr : Bin K (rI (fun _ j => 0 ≤ j) fun i j => .int (i / 2 ^ j.toNat)) shrD := bin_rI (h := fun i j => .int (i / 2 ^ j.toNat)) (fun a b d e => by
  cases a <;> cases b <;> first | (cases e; done) | skip
  obtain ⟨c, e⟩ := ite_some e
  exact ⟨_, _, rfl, rfl, c, e⟩) fun _ _ _ _ => rfl
theorem b_neg : Una K (rU fun i => .int (-i)) negD := ⟨fun {Av H a d x Q} av ra e q => by
  cases a <;> cases e
  exact ⟨_, ra, q _ H (Same.refl H) rfl⟩⟩
def rLtA (K : PySem.W.Frag) : R2 := fun x y H Q => rI0 (fun i j => .bl (decide (i < j))) x y H Q ∨ rLtT K x y H Q
theorem op_ltA {X : Cx} (hu : X.A.units < cLine) : OpR X (compareOp .Lt) (rLtA X.K) := op_lt.or (op_ltT hu)
theorem b_lt : Bin K (rLtA K) ltD := ⟨fun {Av H a b d x y Q} av ra rb e q => by
  cases a with
  | int i =>
    cases b <;> cases e
    exact .inl ⟨_, _, ra, rb, q _ H (Same.refl H) rfl⟩
  | tup as =>
    cases b with
    | tup bs =>
      have e : ((intsOf as).bind fun ns => (intsOf bs).map fun ms => D.bl (HT.lexLt ns ms)) = some d := e
      cases e1 : intsOf as with
      | none => rw [e1] at e; cases e
      | some ns =>
        cases e2 : intsOf bs with
        | none => rw [e1, e2] at e; cases e
        | some ms =>
          rw [e1, e2] at e
          cases e
          have e1 := ints_mapM e1
          have e2 := ints_mapM e2
          subst e1 e2
          obtain ⟨p, vs, rfl, np, hp, r1⟩ := ra
          obtain ⟨p2, vs2, rfl, np2, hp2, r2⟩ := rb
          have := Reps.ints.mp r1
          subst this
          have := Reps.ints.mp r2
          subst this
          exact .inr ⟨p, p2, ns, ms, rfl, rfl, SqT.of hp, SqT.of hp2, q _ H (Same.refl H) rfl⟩
    | non | bl _ | int _ | str _ | lst _ | dI _ | dT _ | scr _ | obj _ _ => cases e
  | non | bl _ | str _ | lst _ | dI _ | dT _ | scr _ | obj _ _ => cases b <;> cases e⟩
end

/-! ### == and in -/
mutual
def py : D → PyData
  | .non => .none
  | .bl b => .bool b
  | .int i => .int i
  | .str x => .str x
  | .tup ds => .tuple (pys ds)
  | .lst ds => .list (pys ds)
  | .dI _ => .dict []
  | .dT _ => .dict []
  | .scr _ => .dict []
  | .obj _ _ => .dict []
def pys : List D → List PyData
  | [] => []
  | d :: ds => py d :: pys ds
end
mutual
def eqD : D → D → Bool
  | .non, .non => true
  | .bl a, .bl b => a == b
  | .bl a, .int j => (if a then 1 else 0) == j
  | .int i, .bl b => i == (if b then 1 else 0)
  | .int i, .int j => i == j
  | .str x, .str y => x == y
  | .tup xs, .tup ys => eqDs xs ys
  | .lst xs, .lst ys => eqDs xs ys
  | _, _ => false
def eqDs : List D → List D → Bool
  | [], [] => true
  | x :: xs, y :: ys => eqD x y && eqDs xs ys
  | _, _ => false
end
mutual
/-- no dict in it, and no deeper than n -/
def plD : Nat → D → Bool
  | _, .non => true
  | _, .bl _ => true
  | _, .int _ => true
  | _, .str x => PyData.strOk x
  | 0, .tup _ => false
  | 0, .lst _ => false
  | n + 1, .tup ds => plDs n ds
  | n + 1, .lst ds => plDs n ds
  | _, _ => false
def plDs : Nat → List D → Bool
  | _, [] => true
  | n, d :: ds => plD n d && plDs n ds
end
theorem plDs_iff {n : Nat} : ∀ {ds : List D}, plDs n ds = true ↔ ∀ d ∈ ds, plD n d = true
  | [] => by simp [plDs]
  | d :: ds => by rw [plDs, Bool.and_eq_true, plDs_iff (ds := ds)]; simp
mutual
theorem eqD_py : ∀ (d e : D) (n m : Nat), plD n d = true → plD m e = true → eqD d e = PyData.eqv (py d) (py e)
  | .tup xs, e, n, m, h1, h2 => by
    cases e with
    | tup ys =>
      cases n with
      | zero => cases h1
      | succ n =>
        cases m with
        | zero => cases h2
        | succ m =>
          rw [eqD, py, py, PyData.eqv]
          exact eqDs_py xs ys n m h1 h2
    | _ => rw [eqD] <;> first | rfl | (intros; rename_i h; cases h; done) | (intros; rename_i h _; cases h; done) | (simp [py, PyData.eqv])
  | .lst xs, e, n, m, h1, h2 => by
    cases e with
    | lst ys =>
      cases n with
      | zero => cases h1
      | succ n =>
        cases m with
        | zero => cases h2
        | succ m =>
          rw [eqD, py, py, PyData.eqv]
          exact eqDs_py xs ys n m h1 h2
    | _ => rw [eqD] <;> first | rfl | (intros; rename_i h; cases h; done) | (intros; rename_i h _; cases h; done) | (simp [py, PyData.eqv])
  | .non, e, _, _, _, _ => by cases e <;> simp [eqD, py, PyData.eqv]
  | .bl _, e, _, _, _, _ => by cases e <;> simp [eqD, py, PyData.eqv]
  | .int _, e, _, _, _, _ => by cases e <;> simp [eqD, py, PyData.eqv]
  | .str _, e, _, _, _, _ => by cases e <;> simp [eqD, py, PyData.eqv]
  | .dI _, _, n, _, h, _ => by cases n <;> cases h
  | .dT _, _, n, _, h, _ => by cases n <;> cases h
  | .scr _, _, n, _, h, _ => by cases n <;> cases h
  | .obj _ _, _, n, _, h, _ => by cases n <;> cases h
theorem eqDs_py : ∀ (ds es : List D) (n m : Nat), plDs n ds = true → plDs m es = true → eqDs ds es = PyData.eqvAll (pys ds) (pys es)
  | [], [], _, _, _, _ => rfl
  | [], _ :: _, _, _, _, _ => rfl
  | _ :: _, [], _, _, _, _ => rfl
  | d :: ds, e :: es, n, m, h1, h2 => by
    rw [plDs, Bool.and_eq_true] at h1 h2
    rw [eqDs, pys, pys, PyData.eqvAll, eqD_py d e n m h1.1 h2.1, eqDs_py ds es n m h1.2 h2.2]
end
mutual
theorem plD_ok : ∀ (d : D) (n : Nat), plD n d = true → PyData.canLay0 (py d) = true ∧ PyData.depth (py d) ≤ n
  | .tup xs, n, h => by
    cases n with
    | zero => cases h
    | succ n =>
      obtain ⟨h1, h2⟩ := plDs_ok xs n h
      rw [py, PyData.canLay0, PyData.depth]
      exact ⟨h1, by omega⟩
  | .lst xs, n, h => by
    cases n with
    | zero => cases h
    | succ n =>
      obtain ⟨h1, h2⟩ := plDs_ok xs n h
      rw [py, PyData.canLay0, PyData.depth]
      exact ⟨h1, by omega⟩
  | .non, n, _ => by simp [py, PyData.canLay0, PyData.depth]
  | .bl _, n, _ => by simp [py, PyData.canLay0, PyData.depth]
  | .int _, n, _ => by simp [py, PyData.canLay0, PyData.depth]
  | .str x, n, h => by
    have h : PyData.strOk x = true := by cases n <;> exact h
    simp [py, PyData.canLay0, PyData.depth, h]
  | .dI _, n, h => by cases n <;> cases h
  | .dT _, n, h => by cases n <;> cases h
  | .scr _, n, h => by cases n <;> cases h
  | .obj _ _, n, h => by cases n <;> cases h
theorem plDs_ok : ∀ (ds : List D) (n : Nat), plDs n ds = true → PyData.canLayAll0 (pys ds) = true ∧ PyData.depthAll (pys ds) ≤ n
  | [], n, _ => by simp [pys, PyData.canLayAll0, PyData.depthAll]
  | d :: ds, n, h => by
    rw [plDs, Bool.and_eq_true] at h
    obtain ⟨h1, h2⟩ := plD_ok d n h.1
    obtain ⟨h3, h4⟩ := plDs_ok ds n h.2
    rw [pys, PyData.canLayAll0, PyData.depthAll, h1, h3]
    exact ⟨rfl, by omega⟩
end
mutual
theorem plD_mono : ∀ (d : D) (n m : Nat), n ≤ m → plD n d = true → plD m d = true
  | .tup xs, n, m, l, h => by
    cases n with
    | zero => cases h
    | succ n =>
      cases m with
      | zero => omega
      | succ m => exact plDs_mono xs n m (by omega) h
  | .lst xs, n, m, l, h => by
    cases n with
    | zero => cases h
    | succ n =>
      cases m with
      | zero => omega
      | succ m => exact plDs_mono xs n m (by omega) h
  | .non, _, m, _, _ => by cases m <;> rfl
  | .bl _, _, m, _, _ => by cases m <;> rfl
  | .int _, _, m, _, _ => by cases m <;> rfl
  | .str x, n, m, _, h => by
    have h : PyData.strOk x = true := by cases n <;> exact h
    cases m <;> exact h
  | .dI _, n, _, _, h => by cases n <;> cases h
  | .dT _, n, _, _, h => by cases n <;> cases h
  | .scr _, n, _, _, h => by cases n <;> cases h
  | .obj _ _, n, _, _, h => by cases n <;> cases h
theorem plDs_mono : ∀ (ds : List D) (n m : Nat), n ≤ m → plDs n ds = true → plDs m ds = true
  | [], _, _, _, _ => by simp [plDs]
  | d :: ds, n, m, l, h => by
    rw [plDs, Bool.and_eq_true] at h ⊢
    exact ⟨plD_mono d n m l h.1, plDs_mono ds n m l h.2⟩
end
theorem plD_shaped {d : D} {n : Nat} (hn : n ≤ 64) (h : plD n d = true) : SeqAt.shaped (py d) = true := by
  obtain ⟨h1, h2⟩ := plD_ok d n h
  unfold SeqAt.shaped
  rw [h1, Bool.true_and]
  exact decide_eq_true (by omega)
mutual
theorem rep_dp {K : PySem.W.Frag} {Av : AS} {H : Hp} : ∀ (d : D) (n : Nat) (v : V), plD n d = true → Rep K Av H d v → Dp K H v (py d)
  | .tup xs, n, v, h, ⟨a, vs, e, na, ha, r⟩ => by
    cases n with
    | zero => cases h
    | succ n => subst e; rw [py]; exact .tup (SqT.of ha) (reps_dp xs n vs h r)
  | .lst xs, n, v, h, ⟨a, vs, e, na, ha, r⟩ => by
    cases n with
    | zero => cases h
    | succ n => subst e; rw [py]; exact .lst (SqL.of ha) (reps_dp xs n vs h r)
  | .non, _, v, _, r => by have r : v = .non := r; subst r; exact .non
  | .bl b, _, v, _, r => by have r : v = .bl b := r; subst r; exact .bl b
  | .int b, _, v, _, r => by have r : v = .int b := r; subst r; exact .int b
  | .str b, _, v, _, r => by have r : v = .str b := r; subst r; exact .str b
  | .dI _, n, _, h, _ => by cases n <;> cases h
  | .dT _, n, _, h, _ => by cases n <;> cases h
  | .scr _, n, _, h, _ => by cases n <;> cases h
  | .obj _ _, n, _, h, _ => by cases n <;> cases h
theorem reps_dp {K : PySem.W.Frag} {Av : AS} {H : Hp} : ∀ (ds : List D) (n : Nat) (vs : List V), plDs n ds = true → Reps K Av H ds vs → DpAll K H vs (pys ds)
  | [], _, vs, _, r => by have r : vs = [] := r; subst r; exact .nil
  | d :: ds, n, vs, h, ⟨v, r, e, r1, r2⟩ => by
    rw [plDs, Bool.and_eq_true] at h
    subst e
    exact .cons (rep_dp d n v h.1 r1) (reps_dp ds n r h.2 r2)
end
def eqOp (a b : D) : Option D := if plD 60 a = true ∧ plD 60 b = true then some (.bl (eqD a b)) else none
def neOp (a b : D) : Option D := if plD 60 a = true ∧ plD 60 b = true then some (.bl (!eqD a b)) else none
def inOp (x c : D) : Option D := match c with
  | .lst ds => if plD 60 x = true ∧ plDs 60 ds = true then some (.bl (ds.any fun z => eqD z x)) else none
  | .tup ds => if plD 60 x = true ∧ plDs 60 ds = true then some (.bl (ds.any fun z => eqD z x)) else none
  | _ => none
def notInOp (x c : D) : Option D := match c with
  | .lst ds => if plD 60 x = true ∧ plDs 60 ds = true then some (.bl (!ds.any fun z => eqD z x)) else none
  | .tup ds => if plD 60 x = true ∧ plDs 60 ds = true then some (.bl (!ds.any fun z => eqD z x)) else none
  | _ => none
theorem any_py {x : D} : ∀ {ds : List D}, plD 60 x = true → plDs 60 ds = true → ((pys ds).any fun z => PyData.eqv z (py x)) = ds.any fun z => eqD z x
  | [], _, _ => rfl
  | d :: ds, hx, h => by
    rw [plDs, Bool.and_eq_true] at h
    rw [pys, List.any_cons, List.any_cons, any_py hx h.2, eqD_py d x 60 60 h.1 hx]
section
variable {K : PySem.W.Frag}
theorem b_eq : Bin K (rEqD K) eqOp := ⟨fun {Av H a b d x y Q} av ra rb e q => by
  obtain ⟨⟨h1, h2⟩, rfl⟩ := ite_some e
  refine ⟨py a, py b, rep_dp a 60 x h1 ra, rep_dp b 60 y h2 rb, plD_shaped (by decide) h1, plD_shaped (by decide) h2, q _ H (Same.refl H) ?_⟩
  rw [eqD_py a b 60 60 h1 h2]
  rfl⟩
theorem b_ne : Bin K (rNeD K) neOp := ⟨fun {Av H a b d x y Q} av ra rb e q => by
  obtain ⟨⟨h1, h2⟩, rfl⟩ := ite_some e
  refine ⟨py a, py b, rep_dp a 60 x h1 ra, rep_dp b 60 y h2 rb, plD_shaped (by decide) h1, plD_shaped (by decide) h2, q _ H (Same.refl H) ?_⟩
  rw [eqD_py a b 60 60 h1 h2]
  rfl⟩
/-- in, not in: of a list, of a tuple -/
def rInA (K : PySem.W.Frag) (neg : Bool) : R2 := fun x y H Q => ∃ d ds, Dp K H x d ∧ (Dp K H y (.list ds) ∨ Dp K H y (.tuple ds)) ∧ SeqAt.shaped d = true ∧ SeqAt.shaped (.list ds) = true ∧ Q (.bl (if neg then !ds.any fun z => PyData.eqv z d else ds.any fun z => PyData.eqv z d)) H
theorem shaped_tl {ds : List PyData} (h : SeqAt.shaped (.list ds) = true) : SeqAt.shaped (.tuple ds) = true := by
  unfold SeqAt.shaped at h ⊢
  simpa [PyData.canLay0, PyData.depth] using h
theorem op_inA {X : Cx} (hu : X.A.units + 65 < cLine) : OpR X (compareOp .In) (rInA X.K false) := by
  intro pins s σ H x y v u Q I rx ry h
  obtain ⟨d, ds, hd, he, sd, se, q⟩ := h
  obtain ⟨as, r1⟩ := Dp.reads I d x v hd rx
  rcases he with he | he
  · obtain ⟨bs, r2⟩ := Dp.reads I (.list ds) y u he ry
    exact SeqAt.in_list_reads r2 r1 (SeqAt.canLay_of_shaped se) (SeqAt.canLay_of_shaped sd) (room_in_shaped sd hu) ⟨.bl _, H, I, rfl, q⟩
  · obtain ⟨bs, r2⟩ := Dp.reads I (.tuple ds) y u he ry
    exact SeqAt.in_tuple_reads r2 r1 (SeqAt.canLay_of_shaped se) (SeqAt.canLay_of_shaped sd) (room_in_shaped sd hu) ⟨.bl _, H, I, rfl, q⟩
theorem op_notInA {X : Cx} (hu : X.A.units + 65 < cLine) : OpR X (compareOp .NotIn) (rInA X.K true) := by
  intro pins s σ H x y v u Q I rx ry h
  obtain ⟨d, ds, hd, he, sd, se, q⟩ := h
  obtain ⟨as, r1⟩ := Dp.reads I d x v hd rx
  rcases he with he | he
  · obtain ⟨bs, r2⟩ := Dp.reads I (.list ds) y u he ry
    exact SeqAt.notIn_list_reads r2 r1 (SeqAt.canLay_of_shaped se) (SeqAt.canLay_of_shaped sd) (room_in_shaped sd hu) ⟨.bl _, H, I, rfl, q⟩
  · obtain ⟨bs, r2⟩ := Dp.reads I (.tuple ds) y u he ry
    exact SeqAt.notIn_tuple_reads r2 r1 (SeqAt.canLay_of_shaped se) (SeqAt.canLay_of_shaped sd) (room_in_shaped sd hu) ⟨.bl _, H, I, rfl, q⟩
theorem plDs_list {ds : List D} (h : plDs 60 ds = true) : SeqAt.shaped (.list (pys ds)) = true := plD_shaped (d := .lst ds) (n := 61) (by decide) h
theorem b_in : Bin K (rInA K false) inOp := ⟨fun {Av H a b d x y Q} av ra rb e q => by
  cases b with
  | lst ds =>
    obtain ⟨⟨h1, h2⟩, rfl⟩ := ite_some e
    refine ⟨py a, pys ds, rep_dp a 60 x h1 ra, .inl (rep_dp (.lst ds) 61 y h2 rb), plD_shaped (by decide) h1, plDs_list h2, q _ H (Same.refl H) ?_⟩
    rw [any_py h1 h2]; rfl
  | tup ds =>
    obtain ⟨⟨h1, h2⟩, rfl⟩ := ite_some e
    refine ⟨py a, pys ds, rep_dp a 60 x h1 ra, .inr (rep_dp (.tup ds) 61 y h2 rb), plD_shaped (by decide) h1, plDs_list h2, q _ H (Same.refl H) ?_⟩
    rw [any_py h1 h2]; rfl
  | non | bl _ | int _ | str _ | dI _ | dT _ | scr _ | obj _ _ => cases e⟩
theorem b_notin : Bin K (rInA K true) notInOp := ⟨fun {Av H a b d x y Q} av ra rb e q => by
  cases b with
  | lst ds =>
    obtain ⟨⟨h1, h2⟩, rfl⟩ := ite_some e
    refine ⟨py a, pys ds, rep_dp a 60 x h1 ra, .inl (rep_dp (.lst ds) 61 y h2 rb), plD_shaped (by decide) h1, plDs_list h2, q _ H (Same.refl H) ?_⟩
    rw [any_py h1 h2]; rfl
  | tup ds =>
    obtain ⟨⟨h1, h2⟩, rfl⟩ := ite_some e
    refine ⟨py a, pys ds, rep_dp a 60 x h1 ra, .inr (rep_dp (.tup ds) 61 y h2 rb), plD_shaped (by decide) h1, plDs_list h2, q _ H (Same.refl H) ?_⟩
    rw [any_py h1 h2]; rfl
  | non | bl _ | int _ | str _ | dI _ | dT _ | scr _ | obj _ _ => cases e⟩
end
/-- is None -/
def isNonD : D → Bool
  | .non => true
  | _ => false
def isNoneOp (a b : D) : Option D := match b with
  | .non => some (.bl (isNonD a))
  | _ => none
def notNoneOp (a b : D) : Option D := match b with
  | .non => some (.bl (!isNonD a))
  | _ => none
def isBlOp (a b : D) : Option D := match a, b with
  | .bl x, .bl y => some (.bl (decide (x = y)))
  | _, _ => none
def notBlOp (a b : D) : Option D := match a, b with
  | .bl x, .bl y => some (.bl (!decide (x = y)))
  | _, _ => none
section
variable {K : PySem.W.Frag}
theorem non_rep {Av : AS} {H : Hp} {a : D} {x : V} (r : Rep K Av H a x) : decide (x = .non) = isNonD a := by
  cases a with
  | non => have r : x = .non := r; subst r; rfl
  | bl _ | int _ | str _ => cases r; rfl
  | tup _ | lst _ | dI _ | dT _ => obtain ⟨a, vs, rfl, _⟩ := r; rfl
  | scr _ => obtain ⟨a, rfl, _⟩ := r; rfl
  | obj _ _ => exact False.elim r
theorem b_isN : Bin K (fun x y H Q => y = .non ∧ Q (.bl (decide (x = .non))) H) isNoneOp := ⟨fun {Av H a b d x y Q} av ra rb e q => by
  cases b <;> cases e
  exact ⟨rb, q _ H (Same.refl H) (by rw [non_rep ra]; rfl)⟩⟩
theorem b_notN : Bin K (fun x y H Q => y = .non ∧ Q (.bl (!decide (x = .non))) H) notNoneOp := ⟨fun {Av H a b d x y Q} av ra rb e q => by
  cases b <;> cases e
  exact ⟨rb, q _ H (Same.refl H) (by rw [non_rep ra]; rfl)⟩⟩
theorem b_isB : Bin K rIsB isBlOp := ⟨fun {Av H a b d x y Q} av ra rb e q => by
  cases a <;> cases b <;> cases e
  exact ⟨_, _, ra, rb, q _ H (Same.refl H) rfl⟩⟩
theorem b_notB : Bin K rNotB notBlOp := ⟨fun {Av H a b d x y Q} av ra rb e q => by
  cases a <;> cases b <;> cases e
  exact ⟨_, _, ra, rb, q _ H (Same.refl H) rfl⟩⟩
end

/-! ### sequences -/
def catT : D → D → Option D
  | .tup a, .tup b => if a.length + b.length ≤ 16777216 then some (.tup (a ++ b)) else none
  | _, _ => none
def catL : D → D → Option D
  | .lst a, .lst b => if a.length + b.length ≤ 16777216 then some (.lst (a ++ b)) else none
  | _, _ => none
def repL : D → D → Option D
  | .lst a, .int k => if 0 ≤ k ∧ k < 1000000000 ∧ a.length * k.toNat ≤ 16777216 then some (.lst ((List.replicate k.toNat a).flatten)) else none
  | _, _ => none
/-- + : ints, tuples -/
def addA (a b : D) : Option D := match a, b with
  | .int i, .int j => some (.int (i + j))
  | .tup a, .tup b => catT (.tup a) (.tup b)
  | _, _ => none
def ixD : D → D → Option D
  | .lst ds, .int i => atI ds i
  | .tup ds, .int i => atI ds i
  | .scr ns, .int i => (atI ns i).map .int
  | _, _ => none
section
variable {K : PySem.W.Frag}
theorem Reps.same {Av : AS} {H H' : Hp} (s : Same H H') {ds : List D} {vs : List V} (r : Reps K Av H ds vs) : Reps K Av H' ds vs := Reps.mono (fun a o e _ => s a o e) (fun _ _ z => z) _ _ r
theorem Reps.samep {Av : AS} {H H' : Hp} {p : Addr} (s : Same H H') (hp : H p = none) {ds : List D} {vs : List V} (r : Reps K Av H ds vs) : Reps K (fun a => Av a ∨ a = p) H' ds vs := Reps.mono (fun a o e _ => s a o e) (fun a hn z => z.elim id fun z => absurd hp (z ▸ hn)) _ _ r
theorem nil_of_len {ds : List D} {vs : List V} {Av : AS} {H : Hp} (r : Reps K Av H ds vs) : vs = [] ↔ ds = [] := by
  have := r.length
  cases ds <;> cases vs <;> simp at this ⊢
theorem b_catT : Bin K (rCatA K) catT := ⟨fun {Av H a b d x y Q} av ra rb e q => by
  cases a <;> cases b <;> first | (cases e; done) | skip
  obtain ⟨hl, rfl⟩ := ite_some e
  obtain ⟨p, vs, rfl, np, hp, r1⟩ := id ra
  obtain ⟨p2, vs2, rfl, np2, hp2, r2⟩ := id rb
  refine ⟨p, p2, vs, vs2, rfl, rfl, SqT.of hp, SqT.of hp2, by rw [r1.length, r2.length, line_eq]; exact hl, fun e => ?_, fun _ e => ?_, fun _ _ t ht => ?_⟩
  · have := (nil_of_len r1).mp e
    subst this
    exact q _ H (Same.refl H) rb
  · have := (nil_of_len r2).mp e
    subst this
    refine q _ H (Same.refl H) ?_
    rw [List.append_nil]
    exact ra
  · exact q _ _ (same_new ht) ⟨t, _, rfl, av.new ht, upd_same, (r1.append r2).same (same_new ht)⟩⟩
def rAddA (K : PySem.W.Frag) : R2 := fun x y H Q => rI0 (fun i j => .int (i + j)) x y H Q ∨ rCatA K x y H Q
theorem op_addA {X : Cx} : OpR X (binaryOp .Add) (rAddA X.K) := op_add.or op_catA
theorem b_addA : Bin K (rAddA K) addA := ⟨fun {Av H a b d x y Q} av ra rb e q => by
  cases a with
  | int i =>
    cases b <;> first | (cases e; done) | skip
    exact .inl (b_add.ok av ra rb e q)
  | tup as =>
    cases b <;> first | (cases e; done) | skip
    exact .inr (b_catT.ok av ra rb e q)
  | non | bl _ | str _ | lst _ | dI _ | dT _ | scr _ | obj _ _ => cases b <;> cases e⟩
theorem b_catL : BinF K rCat catL := ⟨fun {Av H a b d x y Q} av ra rb e q => by
  cases a <;> cases b <;> first | (cases e; done) | skip
  obtain ⟨hl, rfl⟩ := ite_some e
  obtain ⟨p, vs, rfl, np, hp, r1⟩ := ra
  obtain ⟨p2, vs2, rfl, np2, hp2, r2⟩ := rb
  refine ⟨p, p2, vs, vs2, rfl, rfl, hp, hp2, by rw [r1.length, r2.length, line_eq]; exact hl, fun t ht => ?_⟩
  exact q t _ _ (same_new ht) ht ⟨rfl, _, upd_same, (r1.append r2).samep (same_new ht) ht⟩⟩
theorem reps_rep {Av : AS} {H : Hp} {ds : List D} {vs : List V} (r : Reps K Av H ds vs) : ∀ n, Reps K Av H (List.replicate n ds).flatten (List.replicate n vs).flatten
  | 0 => rfl
  | n + 1 => by rw [List.replicate_succ, List.replicate_succ, List.flatten_cons, List.flatten_cons]; exact r.append (reps_rep r n)
theorem b_ix : Bin K (rIx K) ixD := ⟨fun {Av H a b d x y Q} av ra rb e q => by
  cases b with
  | int i =>
    have rb : y = .int i := rb
    subst rb
    have key : ∀ {ds : List D} {vs : List V}, Reps K Av H ds vs → atI ds i = some d → ∃ v, atI vs i = some v ∧ Rep K Av H d v := fun {ds vs} r e => by
      unfold atI at e ⊢
      rw [r.length]
      cases h : ixN ds.length i with
      | none => rw [h] at e; cases e
      | some j =>
        rw [h] at e
        exact r.get (i := j) e
    cases a with
    | lst ds =>
      obtain ⟨p, vs, rfl, np, hp, r1⟩ := ra
      obtain ⟨v, hv, rv⟩ := key r1 e
      exact .inl ⟨p, vs, i, v, rfl, rfl, SqL.of hp, hv, q v H (Same.refl H) rv⟩
    | tup ds =>
      obtain ⟨p, vs, rfl, np, hp, r1⟩ := ra
      obtain ⟨v, hv, rv⟩ := key r1 e
      exact .inr (.inl ⟨p, vs, i, v, rfl, rfl, SqT.of hp, hv, q v H (Same.refl H) rv⟩)
    | scr ns =>
      have hs : ∃ p, x = .ref p := let ⟨p, e, _⟩ := ra; ⟨p, e⟩
      obtain ⟨p, rfl⟩ := hs
      have e : (atI ns i).map D.int = some d := e
      cases h : atI ns i with
      | none => rw [h] at e; cases e
      | some n =>
        rw [h] at e
        cases e
        refine .inl ⟨p, _, i, .int n, rfl, rfl, scr_seq ra, ?_, q _ H (Same.refl H) rfl⟩
        unfold atI at h ⊢
        rw [List.length_map]
        cases h2 : ixN ns.length i with
        | none => rw [h2] at h; cases h
        | some j =>
          rw [h2] at h
          have h : ns[j]? = some n := h
          show (ns.map V.int)[j]? = _
          rw [List.getElem?_map, h]; rfl
    | non | bl _ | int _ | str _ | dI _ | dT _ | obj _ _ => cases e
  | non | bl _ | str _ | tup _ | lst _ | dI _ | dT _ | scr _ | obj _ _ => cases a <;> cases e⟩
end
def lenF : List D → Option D
  | [.lst ds] => some (.int ds.length)
  | [.tup ds] => some (.int ds.length)
  | [.scr ns] => some (.int ns.length)
  | _ => none
def lenDictF : List D → Option D
  | [.dI kvs] => some (.int kvs.length)
  | [.dT kvs] => some (.int kvs.length)
  | _ => none
def blsOf : List D → Option (List Bool)
  | [] => some []
  | .bl n :: ds => (blsOf ds).map (n :: ·)
  | _ => none
theorem bls_map : ∀ {ds : List D} {ns : List Bool}, blsOf ds = some ns → ds = ns.map D.bl
  | [], ns, h => by cases h; rfl
  | .bl n :: ds, ns, h => by
    cases e : blsOf ds with
    | none => rw [blsOf, e] at h; cases h
    | some ms =>
      rw [blsOf, e] at h
      cases h
      rw [bls_map e]; rfl
  | .non :: _, _, h | .int _ :: _, _, h | .str _ :: _, _, h | .tup _ :: _, _, h | .lst _ :: _, _, h | .dI _ :: _, _, h | .dT _ :: _, _, h | .scr _ :: _, _, h | .obj _ _ :: _, _, h => by cases h
theorem blsOf_map (ns : List Bool) : blsOf (ns.map D.bl) = some ns := by
  induction ns with
  | nil => rfl
  | cons n ns ih => rw [List.map_cons, blsOf, ih]; rfl
def allF : List D → Option D
  | [.lst ds] => (blsOf ds).map fun bs => .bl (bs.all id)
  | _ => none
def anyF : List D → Option D
  | [.lst ds] => (blsOf ds).map fun bs => .bl (bs.any id)
  | _ => none
def sumF : List D → Option D
  | [.lst ds] => (intsOf ds).map fun ns => .int ns.sum
  | _ => none
def min2F : List D → Option D
  | [.int i, .int j] => some (.int (if j < i then j else i))
  | _ => none
def max2F : List D → Option D
  | [.int i, .int j] => some (.int (if j > i then j else i))
  | _ => none
def intF : List D → Option D
  | [.int i] => some (.int i)
  | [.bl b] => some (.int (if b then 1 else 0))
  | _ => none
def tupF : List D → Option D
  | [.lst ds] => some (.tup ds)
  | [.tup ds] => some (.tup ds)
  | _ => none
def lstF : List D → Option D
  | [.lst ds] => some (.lst ds)
  | [.tup ds] => some (.lst ds)
  | _ => none
section
variable {K : PySem.W.Frag}
theorem Reps.inv1 {Av : AS} {H : Hp} {d : D} {vs : List V} (r : Reps K Av H [d] vs) : ∃ v, vs = [v] ∧ Rep K Av H d v := by
  obtain ⟨v, t, rfl, h, e⟩ := r
  have e : t = [] := e
  subst e
  exact ⟨v, rfl, h⟩
theorem Reps.inv2 {Av : AS} {H : Hp} {d e : D} {vs : List V} (r : Reps K Av H [d, e] vs) : ∃ v w, vs = [v, w] ∧ Rep K Av H d v ∧ Rep K Av H e w := by
  obtain ⟨v, t, rfl, h, r⟩ := r
  obtain ⟨w, rfl, h2⟩ := Reps.inv1 r
  exact ⟨v, w, rfl, h, h2⟩
theorem Reps.bls {Av : AS} {H : Hp} : ∀ {ns : List Bool} {vs : List V}, Reps K Av H (ns.map D.bl) vs → vs = ns.map V.bl
  | [], _, h => h
  | n :: ns, vs, ⟨v, r, e, h1, h2⟩ => by
    have h1 : v = .bl n := h1
    rw [e, h1, Reps.bls h2]; rfl
theorem c_len : Cal K (fun xs H Q => ∃ p ys, xs = [.ref p] ∧ (SqL K H p ys ∨ SqT K H p ys) ∧ Q (.int ys.length) H) lenF := ⟨fun {Av H ds d xs Q} av r e q => by
  match ds, e with
  | [.lst as], e =>
    cases e
    obtain ⟨v, rfl, p, vs, rfl, np, hp, rr⟩ := r.inv1
    exact ⟨p, vs, rfl, .inl (SqL.of hp), q _ H (Same.refl H) (by rw [rr.length]; rfl)⟩
  | [.tup as], e =>
    cases e
    obtain ⟨v, rfl, p, vs, rfl, np, hp, rr⟩ := r.inv1
    exact ⟨p, vs, rfl, .inr (SqT.of hp), q _ H (Same.refl H) (by rw [rr.length]; rfl)⟩
  | [.scr ns], e =>
    cases e
    obtain ⟨v, rfl, rr⟩ := r.inv1
    obtain ⟨p, rfl, _⟩ := id rr
    exact ⟨p, _, rfl, .inl (scr_seq rr), q _ H (Same.refl H) (by rw [List.length_map]; rfl)⟩⟩
theorem c_all : Cal K (rAll K) allF := ⟨fun {Av H ds d xs Q} av r e q => by
  match ds, e with
  | [.lst as], e =>
    obtain ⟨v, rfl, p, vs, rfl, np, hp, rr⟩ := r.inv1
    have e : (blsOf as).map (fun bs => D.bl (bs.all id)) = some d := e
    cases h : blsOf as with
    | none => rw [h] at e; cases e
    | some bs =>
      rw [h] at e
      cases e
      have h := bls_map h
      subst h
      have := rr.bls
      subst this
      exact ⟨p, bs, rfl, SqL.of hp, q _ H (Same.refl H) rfl⟩⟩
theorem c_any : Cal K (rAny K) anyF := ⟨fun {Av H ds d xs Q} av r e q => by
  match ds, e with
  | [.lst as], e =>
    obtain ⟨v, rfl, p, vs, rfl, np, hp, rr⟩ := r.inv1
    have e : (blsOf as).map (fun bs => D.bl (bs.any id)) = some d := e
    cases h : blsOf as with
    | none => rw [h] at e; cases e
    | some bs =>
      rw [h] at e
      cases e
      have h := bls_map h
      subst h
      have := rr.bls
      subst this
      exact ⟨p, bs, rfl, SqL.of hp, q _ H (Same.refl H) rfl⟩⟩
theorem c_sum : Cal K (rSum K) sumF := ⟨fun {Av H ds d xs Q} av r e q => by
  match ds, e with
  | [.lst as], e =>
    obtain ⟨v, rfl, p, vs, rfl, np, hp, rr⟩ := r.inv1
    have e : (intsOf as).map (fun ns => D.int ns.sum) = some d := e
    cases h : intsOf as with
    | none => rw [h] at e; cases e
    | some bs =>
      rw [h] at e
      cases e
      have h := ints_mapM h
      subst h
      have := Reps.ints.mp rr
      subst this
      exact ⟨p, bs, rfl, SqL.of hp, q _ H (Same.refl H) rfl⟩⟩
theorem c_min2 : Cal K (fun xs H Q => ∃ i j, xs = [.int i, .int j] ∧ Q (.int (if j < i then j else i)) H) min2F := ⟨fun {Av H ds d xs Q} av r e q => by
  match ds, e with
  | [.int i, .int j], e =>
    cases e
    obtain ⟨v, w, rfl, h1, h2⟩ := r.inv2
    have h1 : v = .int i := h1
    have h2 : w = .int j := h2
    subst h1 h2
    exact ⟨i, j, rfl, q _ H (Same.refl H) rfl⟩⟩
theorem c_max2 : Cal K (fun xs H Q => ∃ i j, xs = [.int i, .int j] ∧ Q (.int (if j > i then j else i)) H) max2F := ⟨fun {Av H ds d xs Q} av r e q => by
  match ds, e with
  | [.int i, .int j], e =>
    cases e
    obtain ⟨v, w, rfl, h1, h2⟩ := r.inv2
    have h1 : v = .int i := h1
    have h2 : w = .int j := h2
    subst h1 h2
    exact ⟨i, j, rfl, q _ H (Same.refl H) rfl⟩⟩
theorem c_int : Cal K (fun xs H Q => (∃ i, xs = [.int i] ∧ Q (.int i) H) ∨ ∃ k, xs = [.bl k] ∧ Q (.int (if k then 1 else 0)) H) intF := ⟨fun {Av H ds d xs Q} av r e q => by
  match ds, e with
  | [.int i], e =>
    cases e
    obtain ⟨v, rfl, h1⟩ := r.inv1
    have h1 : v = .int i := h1
    subst h1
    exact .inl ⟨i, rfl, q _ H (Same.refl H) rfl⟩
  | [.bl i], e =>
    cases e
    obtain ⟨v, rfl, h1⟩ := r.inv1
    have h1 : v = .bl i := h1
    subst h1
    exact .inr ⟨i, rfl, q _ H (Same.refl H) rfl⟩⟩
theorem c_tuple : Cal K (fun xs H Q => ∃ p ys, xs = [.ref p] ∧ ((SqL K H p ys ∧ ∀ l, H l = none → Q (.ref l) (upd H l (.tup ys))) ∨ (SqT K H p ys ∧ Q (.ref p) H))) tupF := ⟨fun {Av H ds d xs Q} av r e q => by
  match ds, e with
  | [.lst as], e =>
    cases e
    obtain ⟨v, rfl, p, vs, rfl, np, hp, rr⟩ := r.inv1
    exact ⟨p, vs, rfl, .inl ⟨SqL.of hp, fun t ht => q _ _ (same_new ht) ⟨t, _, rfl, av.new ht, upd_same, rr.same (same_new ht)⟩⟩⟩
  | [.tup as], e =>
    cases e
    obtain ⟨v, rfl, rr⟩ := r.inv1
    obtain ⟨p, vs, rfl, np, hp, r2⟩ := id rr
    exact ⟨p, vs, rfl, .inr ⟨SqT.of hp, q _ H (Same.refl H) rr⟩⟩⟩
theorem c_list : CalF K (fun xs H Q => ∃ p ys, xs = [.ref p] ∧ (SqL K H p ys ∨ SqT K H p ys) ∧ ∀ l, H l = none → Q (.ref l) (upd H l (.lst ys))) lstF := ⟨fun {Av H ds d xs Q} av r e q => by
  match ds, e with
  | [.lst as], e =>
    cases e
    obtain ⟨v, rfl, p, vs, rfl, np, hp, rr⟩ := r.inv1
    exact ⟨p, vs, rfl, .inl (SqL.of hp), fun t ht => q t _ _ (same_new ht) ht ⟨rfl, _, upd_same, rr.samep (same_new ht) ht⟩⟩
  | [.tup as], e =>
    cases e
    obtain ⟨v, rfl, p, vs, rfl, np, hp, rr⟩ := r.inv1
    exact ⟨p, vs, rfl, .inr (SqT.of hp), fun t ht => q t _ _ (same_new ht) ht ⟨rfl, _, upd_same, rr.samep (same_new ht) ht⟩⟩⟩
end

/-! ### list(range(..)), tuple(range(..)) -/
def dLstRg (t : DE) : DE := fun env k x => t env (fun d e => ∃ n, d = .int n ∧ (-1000000 < n ∧ n < 1000000) ∧ k (.lst (rangeL 0 n)) e) x
def dTupRg (t : DE) : DE := fun env k x => t env (fun d e => ∃ n, d = .int n ∧ (-1000000 < n ∧ n < 1000000) ∧ k (.tup (rangeL 0 n)) e) x
theorem reps_rg {K : PySem.W.Frag} {Av : AS} {H : Hp} (a b : Int) : Reps K Av H (rangeL a b) (rgV a b) := by
  unfold rangeL rgV
  rw [show (List.range (b - a).toNat).map (fun i => D.int (a + (i : Nat))) = ((List.range (b - a).toNat).map fun i => a + ((i : Nat) : Int)).map D.int by rw [List.map_map]; rfl]
  rw [Reps.ints, List.map_map]
  rfl
section
variable {X : Cx} {W : HW} {e : Expr} {p q pos : Pos} {t : DE}
theorem de_lstRg (hc : X.calm = true) (hg : Gl X "list") (hm : X.mg "list" = none) (hg2 : Gl X "range") (hm2 : X.mg "range" = none) (h : PE X e (up X.K W t)) (na : starEach [.Call (.Name "range" q) [e] [] p] X.env = (false, eval (.Call (.Name "range" q) [e] [] p) X.env) :: starEach [] X.env := by rfl)
    (nb : starEach [e] X.env = (false, eval e X.env) :: starEach [] X.env := by rfl) {p2 : Pos} : PE X (.Call (.Name "list" p2) [.Call (.Name "range" q) [e] [] p] [] pos) (upF X.K W (dLstRg t)) := by
  refine pe_conv (pe_listRg hc hg hm (prg_1 hg2 hm2 h nb) na) fun σ H Q h => ?_
  obtain ⟨C, M, env, k, x, R, h, hk, hx⟩ := h
  refine ⟨C, M, env, _, x, R, h, fun a e1 v H1 M1 h1 R1 k1 g1 r1 => ?_, hx⟩
  obtain ⟨n, rfl, hn, kd⟩ := h1
  have r1 : v = .int n := r1
  refine ⟨n, r1, ⟨by decide, by decide, by omega, by omega, by omega⟩, fun t ht => ?_⟩
  exact R1.finF k1 g1 kd hk t _ _ (same_new ht) ht ⟨rfl, _, upd_same, reps_rg 0 n⟩
theorem de_tupRg (hc : X.calm = true) (hg : Gl X "tuple") (hm : X.mg "tuple" = none) (hg2 : Gl X "range") (hm2 : X.mg "range" = none) (h : PE X e (up X.K W t)) (na : starEach [.Call (.Name "range" q) [e] [] p] X.env = (false, eval (.Call (.Name "range" q) [e] [] p) X.env) :: starEach [] X.env := by rfl)
    (nb : starEach [e] X.env = (false, eval e X.env) :: starEach [] X.env := by rfl) {p2 : Pos} : PE X (.Call (.Name "tuple" p2) [.Call (.Name "range" q) [e] [] p] [] pos) (up X.K W (dTupRg t)) := by
  refine pe_conv (pe_tupRg hc hg hm (prg_1 hg2 hm2 h nb) na) fun σ H Q h => ?_
  obtain ⟨C, M, env, k, x, R, h, hk, hx⟩ := h
  refine ⟨C, M, env, _, x, R, h, fun a e1 v H1 M1 h1 R1 k1 g1 r1 => ?_, hx⟩
  obtain ⟨n, rfl, hn, kd⟩ := h1
  have r1 : v = .int n := r1
  refine ⟨n, r1, ⟨by decide, by decide, by omega, by omega, by omega⟩, fun t ht => ?_⟩
  exact R1.fin k1 g1 kd hk _ _ (same_new ht) ⟨t, _, rfl, R1.avt.new ht, upd_same, reps_rg 0 n⟩
end

/-! ### isinstance(x, T), T a built-in type -/
def tyD : D → Option String
  | .non => some "NoneType"
  | .bl _ => some "bool"
  | .int _ => some "int"
  | .str _ => some "str"
  | .tup _ => some "tuple"
  | .lst _ => some "list"
  | _ => none
/-- the answers that are asked here -/
def isiT (t T : String) : Bool := t == T || (t == "bool" && T == "int")
def dIsi (T : String) (t : DE) : DE := fun env k x => t env (fun d e => ∃ s, tyD d = some s ∧ k (.bl (isiT s T)) e) x
theorem tyX_of {K : PySem.W.Frag} {Av : AS} {H : Hp} {d : D} {v : V} {s : String} (r : Rep K Av H d v) (h : tyD d = some s) : TyX K H v (.type s) := by
  cases d with
  | non => cases h; have r : v = .non := r; subst r; exact .base .non
  | bl b => cases h; have r : v = .bl b := r; subst r; exact .base (.bl b)
  | int b => cases h; have r : v = .int b := r; subst r; exact .base (.int b)
  | str b => cases h; have r : v = .str b := r; subst r; exact .base (.str b)
  | tup ds => cases h; obtain ⟨a, vs, rfl, _, ha, _⟩ := r; exact .base (.tup ha)
  | lst ds => cases h; obtain ⟨a, vs, rfl, _, ha, _⟩ := r; exact .base (.lst ha)
  | dI _ | dT _ | scr _ | obj _ _ => cases h
theorem kitB_all : ∀ t ∈ ["NoneType", "bool", "int", "str", "tuple", "list"], ∀ T ∈ ["bool", "int", "tuple", "list"], kitB t T = some (isiT t T) := by decide +kernel
theorem tyD_mem {d : D} {s : String} (h : tyD d = some s) : s ∈ ["NoneType", "bool", "int", "str", "tuple", "list"] := by
  cases d <;> cases h <;> decide
theorem de_isi {X : Cx} {W : HW} {e : Expr} {p q pos : Pos} {t : DE} {T : String} (hT : T ∈ ["bool", "int", "tuple", "list"]) (hg : Gl X "isinstance") (hm : X.mg "isinstance" = none) {y : Str} (ht : PE X (.Name y q) (tC (.ty T))) (h : PE X e (up X.K W t))
    (he : starEach [e, .Name y q] X.env = (false, eval e X.env) :: starEach [.Name y q] X.env := by rfl) (he2 : starEach [.Name y q] X.env = (false, eval (.Name y q) X.env) :: starEach [] X.env := by rfl) (hpl : (backTo pos (starEach [.Name y q] X.env)).any (·.1) = false := by rfl) :
    PE X (.Call (.Name "isinstance" p) [e, .Name y q] [] pos) (up X.K W (dIsi T t)) := by
  refine pe_conv (pe_callB call_isi hg hm (by decide +kernel) (pa_cons h (pa_cons ht pa_nil he2) he) (by decide) (by decide) he hpl) fun σ H Q h => ?_
  obtain ⟨C, M, env, k, x, R, h, hk, hx⟩ := h
  refine ⟨C, M, env, _, x, R, h, fun a e1 v H1 M1 h1 R1 k1 g1 r1 => ?_, hx⟩
  obtain ⟨s, hs, kd⟩ := h1
  exact ⟨v, .ty T, .type s, .type T, isiT s T, rfl, .ty T, tyX_of r1 hs, kit_ty (kitB_all s (tyD_mem hs) T hT), R1.fin k1 g1 kd hk _ H1 (Same.refl _) rfl⟩
end FX

set_option Elab.async false
set_option linter.all false
set_option maxRecDepth 100000
/-! FxJ: sorting lists, dicts, sets of alike data, any length, tuples without items too -/
namespace FX
section
open PySem PySem.Spec PyProof.Rows PySem.W PySem.SeqAt

section
variable {prog : Program} {w : World} {A : Around} {E : Value → Shared → Prop} {s : Shared}
/-- a tuple's own less-than, as a sort of one type asks it -/
theorem call_tup_lt {Q : Value → Shared → Prop} {l b : Addr} {items items2 : Array Value} {e r : Nat → Bool} (hl : s.heap.IsTuple l items) (hb : s.heap.IsTuple b items2)
    (he : ∀ j (h1 : j < items.size) (h2 : j < items2.size), EqAt A.in1 s items[j] items2[j] (e j)) (hr : ∀ j (h1 : j < items.size) (h2 : j < items2.size), e j = false → RcLt A.in1 s items[j] items2[j] (r j))
    (h : Q (.bool (firstLt e r (decide (items.size < items2.size)) (List.range (min items.size items2.size)))) s) : wpAny (model prog w) A (call (.builtin "tuple.__lt__") [.ref l, .ref b]) Q E s := by
  obtain ⟨⟨cls, dd, data, sl⟩, ho, hc, n, hd⟩ := id hl
  obtain ⟨⟨cls2, dd2, data2, sl2⟩, ho2, hc2, n2, hd2⟩ := id hb
  simp only at hc hd hc2 hd2
  subst hc hd hc2 hd2
  exact call_meets PySem.F.slot_tuple_lt ⟨_, ho, rfl⟩ PySem.F.entry_tuple_lt (PySem.F.args_tuple_lt_2 _ _) (tuple_ltAt l b items items2 n n2 dd dd2 sl sl2 e r) ⟨ho, ho2, he, hr, h⟩
theorem oneLt_tup {xs ys : List PyData} {a b : Value} {as bs : List Addr} {Q : Bool → Shared → Prop} (ra : Reads s.heap a (.tuple xs) as) (rb : Reads s.heap b (.tuple ys) bs) (h : alike (.tuple xs) (.tuple ys) = true)
    (hu : A.units + min (PyData.tuple xs).depth (PyData.tuple ys).depth < cLine) (hq : Q (dataLt (.tuple xs) (.tuple ys)) s) : wpAny (model prog w) A (oneLt' true a b) Q E s := by
  have hal : alikeAll xs ys = true := by simpa [alike] using h
  cases ra with
  | @tuple l o vs n _ as₁ h1 h2 h3 h4 =>
    cases rb with
    | @tuple l' o' vs' n' _ bs₁ k1 k2 k3 k4 =>
      have n1 : vs.size = xs.length := by simpa using SeqAt.ReadsAll.length _ _ _ h4
      have n2 : vs'.size = ys.length := by simpa using SeqAt.ReadsAll.length _ _ _ k4
      rw [dataLt_tuple, ← firstLt_toks xs ys hal, ← n1, ← n2] at hq
      rw [oneLt'_eq]
      simp only [if_true]
      refine wpAny_bind (wpAny_cRoomFor (room_here hu) ?_)
      refine wpAny_bind (wpAny_callSpecialIfBound?_slot (T := "tuple") ⟨_, h1, h2⟩ PySem.F.slot_tuple_lt (call_tup_lt (e := pairEq xs ys) (r := fun j => dataLt (xs.getD j .none) (ys.getD j .none)) ⟨_, h1, h2, _, h3⟩ ⟨_, k1, k2, _, k3⟩ (fun j j1 j2 => ?_) (fun j j1 j2 hj => ?_) ?_))
      · have := eqAt_alikeAll xs ys A.in1 s vs.toList vs'.toList _ _ h4 k4 hal (room_in hu) j (by simpa using j1) (by simpa using j2)
        simpa using this
      · have := rcLt_alikeAll xs ys A.in1 s vs.toList vs'.toList _ _ h4 k4 hal (room_in hu) j (by simpa using j1) (by simpa using j2) hj
        simpa using this
      · exact wpAny_truthy_bool hq

/-- the first items of tuples -/
inductive Fsts (h : Heap) : List Value → List PyData → List (Option Value) → Prop
  | nil : Fsts h [] [] []
  | cons {a : Addr} {o : Obj} {its : Array Value} {n : Nat} {vs : List Value} {xs : List PyData} {ds : List PyData} {fs : List (Option Value)} : h.get? a = some o → o.cls = .type "tuple" → o.data = .seq its n → (its[0]?.isSome = !xs.isEmpty) → Fsts h vs ds fs → Fsts h (.ref a :: vs) (.tuple xs :: ds) (its[0]? :: fs)
theorem fsts_of {h : Heap} : ∀ {vs : List Value} {ds : List PyData}, EachIs (fun v d => ∃ as, Reads h v d as) vs ds → (∀ d, d ∈ ds → ∃ xs, d = .tuple xs) → ∃ fs, Fsts h vs ds fs
  | _, _, .nil, _ => ⟨[], .nil⟩
  | _, _, .cons (b := d) ⟨as, r⟩ t, ht => by
    obtain ⟨fs, h1⟩ := fsts_of t fun d hd => ht d (List.mem_cons_of_mem _ hd)
    obtain ⟨xs, rfl⟩ := ht d (List.mem_cons_self ..)
    cases r with
    | @tuple a o its n _ _ ho hc hd hr =>
      refine ⟨_, .cons ho hc hd ?_ h1⟩
      have e : its.toList.length = xs.length := SeqAt.ReadsAll.length _ _ _ hr
      rw [Array.length_toList] at e
      cases xs with
      | nil =>
        have : its.size = 0 := e
        simp [this]
      | cons x xs =>
        have : 0 < its.size := by rw [e]; simp
        simp [this]
theorem Fsts.length {h : Heap} {vs : List Value} {ds : List PyData} {fs : List (Option Value)} (t : Fsts h vs ds fs) : fs.length = vs.length := by
  induction t with
  | nil => rfl
  | cons _ _ _ _ _ ih => rw [List.length_cons, List.length_cons, ih]
theorem run_fsts {M : Model} : ∀ {vs : List Value} {ds : List PyData} {fs : List (Option Value)} {Q : List (Option Value) → Shared → Prop}, Fsts s.heap vs ds fs → Q fs s → wpAny M A (vs.mapM firstOfTuple') Q E s
  | _, _, _, _, .nil, h => by rw [List.mapM_nil]; exact wpAny_pure h
  | _, _, _, Q, .cons (a := a) (o := o) (vs := vs) (fs := fs) (its := its) ho hc hd _ t, h => by
    rw [List.mapM_cons]
    refine wpAny_bind ?_
    rw [kas_first_eq]
    refine wpAny_bind (Looks.here (show Looks M s.heap (typeOf (.ref a)) o.cls from (Looks.ld ho).andThen .now) ?_)
    rw [hc, if_neg (by first | decide | simp)]
    refine wpAny_bind (listItems_at ho hd (wpAny_pure ?_))
    exact wpAny_bind (run_fsts (Q := fun bs s' => wpAny M A (pure (its[0]? :: bs)) Q E s') t (wpAny_pure h))

/-- values that read as alike tuples can be sorted, tuples without items too -/
theorem sorts_tups {vs : List Value} {ds : List PyData} (e : EachIs (fun v d => ∃ as, Reads s.heap v d as) vs ds) (hal : AllAlike ds) (ht : ∀ d, d ∈ ds → ∃ xs, d = .tuple xs) (hu : ∀ d, d ∈ ds → A.units + d.depth < cLine) : SortsAt prog w A s (dataKind s.heap ds) vs := by
  rcases Classical.em (∀ d, d ∈ ds → ∃ x r, d = .tuple (x :: r)) with hne | hne
  · exact SortsAt.data e hal (.inl hne) hu
  obtain ⟨fs, F⟩ := fsts_of e ht
  have some_no : fs.toArray.all (·.isSome) = false := by
    rw [List.all_toArray, Bool.eq_false_iff]
    intro c
    refine hne ?_
    clear hne hu hal e
    induction F with
    | nil => intro d hd; cases hd
    | @cons a o its n vs xs ds fs h1 h2 h3 h4 _ ih =>
      rw [List.all_cons, Bool.and_eq_true] at c
      intro d hd
      rcases List.mem_cons.mp hd with rfl | hd
      · rw [h4] at c
        cases xs with
        | nil => exact absurd c.1 (by decide)
        | cons x xs => exact ⟨x, xs, rfl⟩
      · exact ih (fun d hd => ht d (List.mem_cons_of_mem _ hd)) c.2 d hd
  have room : ∀ {d d' : PyData}, d ∈ ds → A.units + min d.depth d'.depth < cLine := fun {d d'} hd => Nat.lt_of_le_of_lt (Nat.add_le_add_left (Nat.min_le_left _ _) _) (hu d hd)
  refine ⟨fun v hv => ?_, ?_⟩
  · obtain ⟨d, hd, as, r⟩ := e.left v hv
    exact ⟨_, dataKind_some hal hd r⟩
  by_cases h0 : (fs.toArray[0]?.bind id).isSome = true
  · refine ⟨general', fun E x y a b Q ha hb hq => ?_, fun h2 E Q hq => ?_⟩
    · obtain ⟨d, as, hd, ra, rfl⟩ := dataKind_inv ha
      obtain ⟨d', as', hd', rb, rfl⟩ := dataKind_inv hb
      obtain ⟨xs, rfl⟩ := ht d hd
      show wpAny _ _ (oneLt' false x y) _ _ _
      exact oneLt_alike (fun c => by cases c) ra rb (hal _ hd d' hd') (by simp) (room hd) hq
    · rw [keyKind'_eq, List.mapM_toArray, map_eq_pure_bind]
      refine wpAny_bind (wpAny_bind (run_fsts F (wpAny_pure ?_)))
      rw [if_neg (by rw [some_no]; simp), if_pos h0]
      exact wpAny_pure hq
  · refine ⟨oneType', fun E x y a b Q ha hb hq => ?_, fun h2 E Q hq => ?_⟩
    · obtain ⟨d, as, hd, ra, rfl⟩ := dataKind_inv ha
      obtain ⟨d', as', hd', rb, rfl⟩ := dataKind_inv hb
      obtain ⟨xs, rfl⟩ := ht d hd
      obtain ⟨ys, rfl⟩ := ht d' hd'
      rw [keyLt'_oneType]
      exact oneLt_tup ra rb (hal _ hd _ hd') (room hd) hq
    · rw [keyKind'_eq, List.mapM_toArray, map_eq_pure_bind]
      refine wpAny_bind (wpAny_bind (run_fsts F (wpAny_pure ?_)))
      rw [if_neg (by rw [some_no]; simp), if_neg h0]
      rw [oneTypeOnly'_eq, List.mapM_toArray, map_eq_pure_bind]
      refine wpAny_bind (wpAny_bind (wpAny_bind (kas_mapM (r := Value.type "tuple") _ (fun v hv Q' hq => ?_) (wpAny_pure ?_))))
      · obtain ⟨d, hd, as, r⟩ := e.left v hv
        obtain ⟨xs, rfl⟩ := ht d hd
        exact (looks_reads r).here hq
      · obtain ⟨v₁, rest, rfl⟩ : ∃ v₁ rest, vs = v₁ :: rest := by
          cases vs with
          | nil => simp at h2
          | cons v r => exact ⟨v, r, rfl⟩
        have hall : ((List.map (fun _ => Value.type "tuple") (v₁ :: rest)).toArray.all fun x => x == Value.type "tuple") = true := by
          simp only [List.all_toArray, List.all_map, List.all_eq_true]
          intro _ _
          rfl
        have h00 : (List.map (fun _ => Value.type "tuple") (v₁ :: rest)).toArray[0]? = some (Value.type "tuple") := by simp
        rw [h00]
        simp only [hall, if_true]
        exact wpAny_pure (wpAny_pure hq)
end
end

open PySem PySem.Spec PyProof.Rows L2
open PySem.W (alike alikeAll AllAlike EachIs SortsAt dataKind dataLe each_mem sortingHeap copyHeap sorting_copy_old sorted_vals sortVals sortVals_data sortVals_length each_map sort_maps alike_ints rowLt dataLt_ints dataLt dataLt_tuple dataLe_int)
/-- what can be sorted here: alike, none None, all tuples or none a tuple -/
structure SortOk (ds : List D) : Prop where
  pl : plDs 40 ds = true
  al : AllAlike (pys ds)
  kd : (∀ d, d ∈ pys ds → ∃ xs, d = .tuple xs) ∨ ∀ d, d ∈ pys ds → d ≠ .none ∧ ∀ xs, d ≠ .tuple xs
def sortD (ds : List D) : List D := ds.mergeSort (dataLe false py)
theorem pys_map : ∀ ds : List D, pys ds = ds.map py
  | [] => rfl
  | d :: ds => by rw [pys, List.map_cons, pys_map ds]
theorem SortOk.sorts {prog : Program} {w : World} {A : Around} {s : Shared} {vs : List Value} {ds : List D} (h : SortOk ds) (e : EachIs (fun v d => ∃ as, Reads s.heap v d as) vs (pys ds)) (hu : A.units + 41 < cLine) : SortsAt prog w A s (dataKind s.heap (pys ds)) vs := by
  have hd : ∀ d, d ∈ pys ds → A.units + d.depth < cLine := fun d hd => by
    rw [pys_map] at hd
    obtain ⟨x, hx, rfl⟩ := List.mem_map.mp hd
    have := (plD_ok x 40 (plDs_iff.mp h.pl x hx)).2
    omega
  rcases h.kd with k | k
  · exact sorts_tups e h.al k hd
  · exact SortsAt.data e h.al (.inr k) hd
/-- the values of the items, one by one -/
theorem each_rep {K : PySem.W.Frag} {Av : AS} {H : Hp} : ∀ {ds : List D} {xs : List V} {us : List Value}, Reps K Av H ds xs → Vals xs us → EachIs (fun u d => ∃ x, RelV x u ∧ Rep K Av H d x) us ds
  | [], _, _, h, r => by cases h; cases r; exact .nil
  | d :: ds, _, _, ⟨v, q, e, h1, h2⟩, r => by
    subst e
    cases r with
    | cons r1 r2 => exact .cons ⟨v, r1, h1⟩ (each_rep h2 r2)
theorem rep_each {K : PySem.W.Frag} {Av : AS} {H : Hp} : ∀ {ds : List D} {us : List Value}, EachIs (fun u d => ∃ x, RelV x u ∧ Rep K Av H d x) us ds → ∃ xs, Vals xs us ∧ Reps K Av H ds xs
  | _, _, .nil => ⟨[], .nil, rfl⟩
  | _, _, .cons ⟨x, r, h⟩ t => by
    obtain ⟨xs, r2, h2⟩ := rep_each t
    exact ⟨x :: xs, .cons r r2, x, xs, rfl, h, h2⟩
theorem each_reads {X : Cx} {pins : List (Addr × Obj)} {σ : L2.St} {H : Hp} {s : Shared} {Av : AS} (I : Inv X pins σ H s) {ds : List D} {us : List Value} (hp : plDs 40 ds = true) (e : EachIs (fun u d => ∃ x, RelV x u ∧ Rep X.K Av H d x) us ds) : EachIs (fun u d => ∃ as, Reads s.heap u (py d) as) us ds :=
  (each_mem e).mono fun u d ⟨⟨x, r, h⟩, hm⟩ => Dp.reads I (py d) x u (rep_dp d 40 x (plDs_iff.mp hp d hm) h) r

/-- sorted(xs) of a list -/
def rSortL (K : PySem.W.Frag) : List V → Hp → VK → Prop := fun vs H Q => ∃ (a : Addr) (xs : List V) (ds : List D) (Av : AS), vs = [V.ref a] ∧ SqL K H a xs ∧ Reps K Av H ds xs ∧ SortOk ds ∧
  ∀ (ys : List V) (p : Addr), Reps K Av H (sortD ds) ys → H p = none → Q (.ref p) (upd H p (.lst ys))
section
variable {X : Cx}
theorem cr_sortL (hu : X.A.units + 65 < cLine) : CallR X (.builtin "sorted") (rSortL X.K) := by
  intro pins s σ H vs us Q I r h
  obtain ⟨a, xs, ds, Av, rfl, hs, hr, ok, q⟩ := h
  obtain ⟨its, rv, hl, hz⟩ := I.list hs
  rw [Vals.ref1 r]
  have eR := each_rep hr rv
  have er := each_reads I ok.pl eR
  have hlen : its.length ≤ sizeLine := by rw [← rv.length]; exact hz
  have er' : EachIs (fun v b => ∃ as, Reads (sortingHeap (copyHeap s.heap its) (s.heap.objs.size + 1) its) v (py b) as) its ds := er.mono fun _ _ ⟨as, r⟩ => ⟨as, PyProof.Rows.Reads.keeps (fun _ _ => sorting_copy_old) r⟩
  have er2 : EachIs (fun v d => ∃ as, Reads (sortingHeap (copyHeap s.heap its) (s.heap.objs.size + 1) its) v d as) its (pys ds) := by
    rw [pys_map]
    exact each_map (R := fun v d => ∃ as, Reads (sortingHeap (copyHeap s.heap its) (s.heap.objs.size + 1) its) v d as) py er'
  refine sorted_vals hl.isList (ok.sorts (s := { s with heap := sortingHeap (copyHeap s.heap its) (s.heap.objs.size + 1) its }) er2 (by show X.A.units + 1 + 1 + 41 < cLine; omega)) hlen ?_
  have eo : EachIs (fun u d => ∃ x, RelV x u ∧ Rep X.K Av H d x) (sortVals (dataKind (sortingHeap (copyHeap s.heap its) (s.heap.objs.size + 1) its) (pys ds)) false its its) (sortD ds) := by
    rw [pys_map]
    exact sortVals_data false eR er' (by rw [← pys_map]; exact ok.al)
  obtain ⟨ys, r1, r2⟩ := rep_each eo
  obtain ⟨ep, he'⟩ := PyProof.Rows.sortedAll_at s.heap its (sortVals (dataKind (sortingHeap (copyHeap s.heap its) (s.heap.objs.size + 1) its) (pys ds)) false its its).toArray
  have hl2 : ys.length ≤ sizeLine := by rw [r1.length, sortVals_length false rfl]; exact hlen
  exact ⟨.ref _, upd H (s.heap.objs.size + 1) (.lst ys), I.laid (t' := s.toks) (fun _ _ => PyProof.Rows.sortedAll_old) (Nat.le_succ _) ⟨hl2, _, ep, r1, he'⟩, rfl, q _ _ r2 (I.hok.fresh (Nat.le_succ _))⟩
end

/-! ### the orders: ints, rows of ints -/
def tupI (ns : List Int) : D := .tup (ns.map .int)
def tupsOf : List D → Option (List (List Int))
  | [] => some []
  | .tup ds :: r => match intsOf ds, tupsOf r with
    | some ns, some ls => some (ns :: ls)
    | _, _ => none
  | _ :: _ => none
theorem tups_mapM : ∀ {ds : List D} {ls : List (List Int)}, tupsOf ds = some ls → ds = ls.map tupI
  | [], _, h => by cases h; rfl
  | d :: ds, ls, h => by
    cases d with
    | tup es =>
      rw [tupsOf] at h
      cases h1 : intsOf es with
      | none => rw [h1] at h; cases h
      | some ns =>
        cases h2 : tupsOf ds with
        | none => rw [h1, h2] at h; cases h
        | some l2 =>
          rw [h1, h2] at h
          cases h
          rw [List.map_cons, ← tups_mapM h2, tupI, ← ints_mapM h1]
    | _ => cases h
theorem ints_self : ∀ ns : List Int, intsOf (ns.map D.int) = some ns
  | [] => rfl
  | n :: ns => by
    show intsOf (D.int n :: ns.map D.int) = _
    rw [intsOf, ints_self ns]; rfl
theorem tups_self : ∀ ls : List (List Int), tupsOf (ls.map tupI) = some ls
  | [] => rfl
  | l :: ls => by
    show tupsOf (D.tup (l.map .int) :: ls.map tupI) = _
    rw [tupsOf, ints_self, tups_self ls]
def leI (a b : Int) : Bool := decide (a ≤ b)
def leR (a b : List Int) : Bool := decide (a ≤ b)
theorem pys_ints (ns : List Int) : pys (ns.map D.int) = ns.map PyData.int := by
  rw [pys_map, List.map_map]; rfl
theorem py_tupI (ns : List Int) : py (tupI ns) = .tuple (ns.map .int) := by
  rw [tupI, py, pys_ints]
theorem plDs_ints {n : Nat} (ns : List Int) : plDs n (ns.map D.int) = true := by
  rw [plDs_iff]
  intro d hd
  obtain ⟨x, _, rfl⟩ := List.mem_map.mp hd
  cases n <;> rfl
theorem plDs_tups {n : Nat} (ls : List (List Int)) : plDs (n + 1) (ls.map tupI) = true := by
  rw [plDs_iff]
  intro d hd
  obtain ⟨x, _, rfl⟩ := List.mem_map.mp hd
  exact plDs_ints x
theorem sortOk_ints (ns : List Int) : SortOk (ns.map D.int) where
  pl := plDs_ints ns
  al := by
    rw [pys_map, List.map_map]
    exact AllAlike.of fun a b => by simp [py, alike]
  kd := .inr fun d hd => by
    rw [pys_ints] at hd
    obtain ⟨x, _, rfl⟩ := List.mem_map.mp hd
    exact ⟨by simp, by simp⟩
theorem sortOk_tups (ls : List (List Int)) : SortOk (ls.map tupI) where
  pl := plDs_tups ls
  al := by
    rw [pys_map, List.map_map]
    refine AllAlike.of fun a b => ?_
    show alike (py (tupI a)) (py (tupI b)) = true
    rw [py_tupI, py_tupI]
    simpa [alike] using alike_ints a b
  kd := .inl fun d hd => by
    rw [pys_map, List.map_map] at hd
    obtain ⟨x, _, rfl⟩ := List.mem_map.mp hd
    exact ⟨_, py_tupI x⟩
theorem sortD_ints (ns : List Int) : sortD (ns.map D.int) = (ns.mergeSort leI).map D.int := by
  unfold sortD
  rw [← sort_maps (r := leI) D.int fun a _ b _ => ?_]
  have := congrFun (congrFun (dataLe_int (β := Int) id) a) b
  exact this.symm
theorem sortD_tups (ls : List (List Int)) : sortD (ls.map tupI) = (ls.mergeSort leR).map tupI := by
  unfold sortD
  rw [← sort_maps (r := leR) tupI fun a _ b _ => ?_]
  show _ = !dataLt (py (tupI b)) (py (tupI a))
  rw [py_tupI, py_tupI, dataLt_tuple]
  show _ = !rowLt (b.map .int) (a.map .int)
  rw [dataLt_ints]
  unfold leR
  by_cases h : b < a
  · have h' : ¬ a ≤ b := fun q => List.not_lt.mpr q h
    simp [h, h']
  · have h' : a ≤ b := List.not_lt.mp h
    simp [h, h']
def sortF : List D → Option D
  | [.lst ds] => match intsOf ds with
    | some ns => some (.lst ((ns.mergeSort leI).map D.int))
    | none => (tupsOf ds).map fun ls => .lst ((ls.mergeSort leR).map tupI)
  | _ => none
theorem c_sortL {K : PySem.W.Frag} : CalF K (rSortL K) sortF := ⟨fun {Av H ds d xs Q} av r e q => by
  match ds, e with
  | [.lst as], e =>
    obtain ⟨v, rfl, p, vs, rfl, np, hp, rr⟩ := r.inv1
    have e : (match intsOf as with
      | some ns => some (D.lst ((ns.mergeSort leI).map D.int))
      | none => (tupsOf as).map fun ls => D.lst ((ls.mergeSort leR).map tupI)) = some d := e
    cases h : intsOf as with
    | some ns =>
      rw [h] at e
      cases e
      have h := ints_mapM h
      subst h
      refine ⟨p, vs, _, Av, rfl, SqL.of hp, rr, sortOk_ints ns, fun ys t hr ht => ?_⟩
      rw [sortD_ints] at hr
      exact q t _ _ (same_new ht) ht ⟨rfl, _, upd_same, hr.samep (same_new ht) ht⟩
    | none =>
      rw [h] at e
      cases h2 : tupsOf as with
      | none => rw [h2] at e; cases e
      | some ls =>
        rw [h2] at e
        cases e
        have h2 := tups_mapM h2
        subst h2
        refine ⟨p, vs, _, Av, rfl, SqL.of hp, rr, sortOk_tups ls, fun ys t hr ht => ?_⟩
        rw [sortD_tups] at hr
        exact q t _ _ (same_new ht) ht ⟨rfl, _, upd_same, hr.samep (same_new ht) ht⟩⟩
end FX

set_option Elab.async false
set_option linter.all false
set_option maxRecDepth 100000
/-! FxK: sorted(dict), sorted(set(list)), slices, min, max, len of dicts -/
namespace FX
open PySem PySem.Spec PyProof.Rows L2
open PySem.W (alike alikeAll AllAlike EachIs SortsAt dataKind dataLe each_mem sortingHeap copyHeap sorting_copy_old sorted_vals sortVals sortVals_data sortVals_length each_map sort_maps alike_ints rowLt dataLt_ints dataLt dataLt_tuple dataLe_int)

/-! ### sorted of anything that is collected -/
section
variable {X : Cx}
theorem sorted_gen {pins : List (Addr × Obj)} {σ : L2.St} {H : Hp} {s : Shared} {Av : AS} {u : Value} {Q : VK} (hu : X.A.units + 65 < cLine)
    (hc : ∀ R : List Value → Shared → Prop, (∀ (s1 : Shared) (us : List Value) (xs : List V) (ds : List D), Inv X pins σ H s1 → Vals xs us → Reps X.K Av H ds xs → SortOk ds → ds.length ≤ sizeLine →
      (∀ ys p, Reps X.K Av H (sortD ds) ys → H p = none → Q (.ref p) (upd H p (.lst ys))) → R us s1) → wpAny (model X.prog X.w) X.A.in1 (collect u) R X.xe s) :
    wpAny (model X.prog X.w) X.A (call (.builtin "sorted") [u]) (EP X pins σ Q) X.xe s := by
  refine Calls.call_function_entry PyProof.Rows.kind_sorted PyProof.Rows.plain_sorted PyProof.Rows.entry_sorted (PyProof.Rows.args_sorted1 _) ?_
  unfold Builtin.«sorted»
  refine wpAny_bind (m := checkCount "sorted" 1 1 _) (wpAny_pure ?_)
  refine wpAny_bind (hc _ fun s1 us xs ds I1 rv hr ok hz q => ?_)
  obtain ⟨h', gs, dr, tk, os⟩ := s1
  have hlen : us.length ≤ sizeLine := by rw [← rv.length, hr.length]; exact hz
  refine wpAny_bind (wpAny_newList ?_ hlen)
  have hoL : (h'.push (seqObj "list" us.toArray 0)).get? h'.objs.size = some (seqObj "list" us.toArray 0) := Heap.get?_push_size _ rfl
  have eR := each_rep hr rv
  have er := each_reads I1 ok.pl eR
  have old : ∀ b o, h'.get? b = some o → (sortingHeap (h'.push (seqObj "list" us.toArray 0)) h'.objs.size us).get? b = some o := fun b o e =>
    PySem.W.sortingHeap_old (Nat.ne_of_lt (Heap.lt_size e)) (Heap.get?_push_of_some _ e)
  have er' : EachIs (fun v b => ∃ as, Reads (sortingHeap (h'.push (seqObj "list" us.toArray 0)) h'.objs.size us) v (py b) as) us ds := er.mono fun _ _ ⟨as, r⟩ => ⟨as, PyProof.Rows.Reads.keeps old r⟩
  have er2 : EachIs (fun v d => ∃ as, Reads (sortingHeap (h'.push (seqObj "list" us.toArray 0)) h'.objs.size us) v d as) us (pys ds) := by
    rw [pys_map]
    exact each_map (R := fun v d => ∃ as, Reads (sortingHeap (h'.push (seqObj "list" us.toArray 0)) h'.objs.size us) v d as) py er'
  show wpAny _ _ _ _ _ { heap := h'.push (seqObj "list" us.toArray 0), gens := gs, drawn := dr, toks := tk, os := os }
  refine wpAny_bind (wpAny_holding (wpAny_call_entry PyProof.Rows.slot_list_sort ⟨_, hoL, rfl⟩ PyProof.Rows.entry_list_sort
    (PySem.W.list_sort_vals (s := { heap := h'.push (seqObj "list" us.toArray 0), gens := gs, drawn := dr, toks := tk, os := os }) hoL (ok.sorts (s := { heap := sortingHeap (h'.push (seqObj "list" us.toArray 0)) h'.objs.size us, gens := gs, drawn := dr, toks := tk, os := os }) er2 (by show X.A.units + 1 + 1 + 41 < cLine; omega)) hlen ⟨_, rfl, ?_⟩) (PyProof.Rows.args_list_sort _)))
  have eo : EachIs (fun u d => ∃ x, RelV x u ∧ Rep X.K Av H d x) (sortVals (dataKind (sortingHeap (h'.push (seqObj "list" us.toArray 0)) h'.objs.size us) (pys ds)) false us us) (sortD ds) := by
    rw [pys_map]
    exact sortVals_data false eR er' (by rw [← pys_map]; exact ok.al)
  obtain ⟨ys, r1, r2⟩ := rep_each eo
  obtain ⟨ep, he'⟩ := PyProof.Rows.sortedHeap_at (vs := us) (out := (sortVals (dataKind (sortingHeap (h'.push (seqObj "list" us.toArray 0)) h'.objs.size us) (pys ds)) false us us).toArray) hoL
  have hl2 : ys.length ≤ sizeLine := by rw [r1.length, sortVals_length false rfl]; exact hlen
  refine wpAny_pure ⟨_, rfl, .ref h'.objs.size, upd H h'.objs.size (.lst ys), I1.laid (t' := tk) (fun b u e => ?_) (Nat.le_refl _) (show ObjOk X.prog X.w _ _ _ (.lst ys) from ⟨hl2, _, ep, r1, he'⟩), rfl, q ys _ r2 (I1.hok.fresh (Nat.le_refl _))⟩
  have hb : b < h'.objs.size := Heap.lt_size e
  rw [PyProof.Rows.sortedHeap_old (Nat.ne_of_lt hb) (by rw [size_push']; exact Nat.lt_succ_of_lt hb)]
  exact Heap.get?_push_of_some _ e

/-- the keys' values of a dict with tuple keys -/
theorem kt_vals {K : PySem.W.Frag} {Av : AS} {H : Hp} (av : AvT Av H) : ∀ {kvs : List (List Int × D)} {ws : List (List Key × V)} {ks : List (List Key × Addr × Value)}, RepT K Av H kvs ws → KT H ws ks →
    Vals (ks.map fun x => V.ref x.2.1) (ks.map fun x => Value.ref x.2.1) ∧ Reps K Av H (kvs.map fun p => tupI p.1) (ks.map fun x => V.ref x.2.1)
  | [], _, _, h, r => by cases h; cases r; exact ⟨.nil, rfl⟩
  | (k, d) :: kvs, _, _, ⟨v, q, e, h1, h2⟩, r => by
    subst e
    cases r with
    | @cons a b as bs r1 r2 =>
      obtain ⟨i1, i2⟩ := kt_vals av h2 r2
      have hk : H b.2.1 = some (.tup ((kT k).map kV)) := r1.2.1
      have e2 : (kT k).map kV = k.map V.int := by unfold kT; rw [List.map_map]; rfl
      rw [e2] at hk
      exact ⟨.cons rfl i1, V.ref b.2.1, _, rfl, ⟨b.2.1, _, rfl, av.tup hk, hk, Reps.ints.mpr rfl⟩, i2⟩
/-- sorted(d), the keys tuples of ints -/
def rSortDT (K : PySem.W.Frag) : List V → Hp → VK → Prop := fun vs H Q => ∃ (a : Addr) (ws : List (List Key × V)) (kvs : List (List Int × D)) (Av : AS), vs = [V.ref a] ∧ Rd H a (.dT ws) ∧ RepT K Av H kvs ws ∧ AvT Av H ∧
  ∀ (ys : List V) (p : Addr), Reps K Av H (((kvs.map (·.1)).mergeSort leR).map tupI) ys → H p = none → Q (.ref p) (upd H p (.lst ys))
theorem cr_sortDT (hc : X.calm = true) (hu : X.A.units + 65 < cLine) : CallR X (.builtin "sorted") (rSortDT X.K) := by
  intro pins s σ H xs us Q I r h
  obtain ⟨d, ws, kvs, Av, rfl, hd, hr, av, q⟩ := h
  obtain ⟨u, rfl, rx⟩ := r.one
  cases rx
  obtain ⟨z, hs, ks, pr, o, es, ep, ho, hx, hdt, he, hn⟩ := (show ObjOk X.prog X.w H s.heap d (.dT ws) from hd.ok I.hok)
  have l1 : es.size = ks.length := size_of_entries he
  have l2 : ws.length = ks.length := Paired.length pr
  refine sorted_gen (H := H) (Av := Av) hu fun R hR => ?_
  refine PySem.W.kdu_collect (A := X.A.in1) (kdl_raw hs hx hdt) (I.ok.hd hc) ho (by omega) fun h' tk acc' kp it => ?_
  have ea : acc'.toList = ks.map fun x => Value.ref x.2.1 := by
    have hl : acc'.toList.length = ks.length := by rw [Array.length_toList, it.1]; exact l1
    apply List.ext_getElem?
    intro j
    rw [List.getElem?_map]
    cases hj : acc'.toList[j]? with
    | none =>
      have h1 := List.getElem?_eq_none_iff.mp hj
      rw [List.getElem?_eq_none (by omega)]
      all_goals rfl
    | some v =>
      obtain ⟨en, hen, hv⟩ := it.2 j v (by rw [← Array.getElem?_toList]; exact hj)
      have qe := entry_at he j
      rw [hen] at qe
      cases hb : ks[j]? with
      | none =>
        rw [hb] at qe
        exact nomatch (show some en = none from qe)
      | some b =>
        rw [hb] at qe
        have e2 : en = entryOfKey (tupleKind (mixKind X.prog X.w)) b := Option.some.inj qe
        rw [hv, e2]
        all_goals rfl
  obtain ⟨v1, v2⟩ := kt_vals av hr pr
  rw [ea]
  have e3 : kvs.map (fun p => tupI p.1) = (kvs.map (·.1)).map tupI := by rw [List.map_map]; rfl
  rw [e3] at v2
  refine hR _ _ _ _ (I.kept kp) v1 v2 (sortOk_tups _) ?_ fun ys p h1 h2 => q ys p (by rw [sortD_tups] at h1; exact h1) h2
  rw [List.length_map, List.length_map]
  have := hr.length
  omega
end
def sortDF : List D → Option D
  | [.dT kvs] => some (.lst (((kvs.map (·.1)).mergeSort leR).map tupI))
  | _ => none
def sortIF : List D → Option D
  | [.dI kvs] => if kvs.length < 64 then some (.lst (((kvs.map (·.1)).mergeSort leI).map D.int)) else none
  | _ => none
theorem c_sortDT {K : PySem.W.Frag} : CalF K (rSortDT K) sortDF := ⟨fun {Av H ds d xs Q} av r e q => by
  match ds, e with
  | [.dT kvs], e =>
    cases e
    obtain ⟨v, rfl, p, ws, rfl, np, hp, rr⟩ := r.inv1
    exact ⟨p, ws, kvs, Av, rfl, hp, rr, av, fun ys t hr ht => q t _ _ (same_new ht) ht ⟨rfl, _, upd_same, hr.samep (same_new ht) ht⟩⟩⟩
theorem leI_total : PySem.W.TotalLe leI where
  trans a b c h1 h2 := decide_eq_true (Int.le_trans (of_decide_eq_true h1) (of_decide_eq_true h2))
  total a b := (Int.le_total a b).elim (fun h => .inl (decide_eq_true h)) fun h => .inr (decide_eq_true h)
theorem sortI_unique {ns ms : List Int} (hp : ms.Perm ns) (hs : ms.Pairwise (· ≤ ·)) : ms = ns.mergeSort leI := by
  refine List.Perm.eq_of_pairwise (le := fun a b => a ≤ b) (fun a b _ _ => Int.le_antisymm) hs ?_ (hp.trans (List.mergeSort_perm _ _).symm)
  exact (PySem.W.sort_pairwise leI_total ns).imp fun h => of_decide_eq_true h
theorem repI_keys {K : PySem.W.Frag} {Av : AS} {H : Hp} : ∀ {kvs : List (Int × D)} {ws : List (Key × V)}, RepI K Av H kvs ws → ws.map (·.1) = (kvs.map (·.1)).map Sum.inl
  | [], _, h => by cases h; rfl
  | (k, d) :: kvs, _, ⟨v, q, e, h1, h2⟩ => by subst e; simp [repI_keys h2, kI]
theorem c_sortI {K : PySem.W.Frag} : CalF K (fun xs H Q => ∃ (a : Addr) (kvs : List (Key × V)) (ks : List Int), xs = [.ref a] ∧ Rd H a (.dK kvs) ∧ kvs.map (·.1) = ks.map Sum.inl ∧ ks.length < 64 ∧
    ∀ (ys : List Int) (p : Addr), ys.Perm ks → ys.Pairwise (· ≤ ·) → H p = none → Q (.ref p) (upd H p (.lst (ys.map V.int)))) sortIF := ⟨fun {Av H ds d xs Q} av r e q => by
  match ds, e with
  | [.dI kvs], e =>
    obtain ⟨hl, rfl⟩ := ite_some e
    obtain ⟨v, rfl, p, ws, rfl, np, hp, rr⟩ := r.inv1
    refine ⟨p, ws, kvs.map (·.1), rfl, hp, repI_keys rr, by rw [List.length_map]; exact hl, fun ys t h1 h2 ht => q t _ _ (same_new ht) ht ⟨rfl, _, upd_same, ?_⟩⟩
    rw [← sortI_unique h1 h2]
    exact Reps.ints.mpr rfl⟩

/-! ### sorted(set(xs)), xs a list of tuples of ints -/
theorem leR_total : PySem.W.TotalLe leR where
  trans a b c h1 h2 := decide_eq_true (List.le_trans (of_decide_eq_true h1) (of_decide_eq_true h2))
  total a b := (List.le_total a b).elim (fun h => .inl (decide_eq_true h)) fun h => .inr (decide_eq_true h)
theorem sortR_unique {ns ms : List (List Int)} (hp : ms.Perm ns) (hs : ms.Pairwise (· ≤ ·)) : ms = ns.mergeSort leR := by
  refine List.Perm.eq_of_pairwise (le := fun a b => a ≤ b) (fun a b _ _ => List.le_antisymm) hs ?_ (hp.trans (List.mergeSort_perm _ _).symm)
  exact (PySem.W.sort_pairwise leR_total ns).imp fun h => of_decide_eq_true h
theorem sortR_sorted (ns : List (List Int)) : (ns.mergeSort leR).Pairwise (· ≤ ·) := (PySem.W.sort_pairwise leR_total ns).imp fun h => of_decide_eq_true h
theorem sortI_sorted (ns : List Int) : (ns.mergeSort leI).Pairwise (· ≤ ·) := (PySem.W.sort_pairwise leI_total ns).imp fun h => of_decide_eq_true h
theorem sortR_perm {ns ms : List (List Int)} (hp : ms.Perm ns) : ms.mergeSort leR = ns.mergeSort leR := sortR_unique ((List.mergeSort_perm _ _).trans hp) (sortR_sorted _)
/-- sorted(set) -/
def rSortST (K : PySem.W.Frag) (P : Program) (w : World) : List V → Hp → VK → Prop := fun vs H Q => ∃ (a : Addr) (L : List (Addr × List Int)) (Av : AS), vs = [V.ref a] ∧ H a = some (SetTO P w a L) ∧ (∀ p ∈ L, SqT K H p.1 (p.2.map V.int)) ∧ (∀ p ∈ L, Rep K Av H (tupI p.2) (.ref p.1)) ∧
  ((L.map (·.2)).Nodup → ∀ (ys : List V) (p : Addr), Reps K Av H (((L.map (·.2)).mergeSort leR).map tupI) ys → H p = none → Q (.ref p) (upd H p (.lst ys)))
section
variable {X : Cx}
theorem cr_sortST (hc : X.calm = true) (hu : X.A.units + 65 < cLine) : CallR X (.builtin "sorted") (rSortST X.K X.prog X.w) := by
  intro pins s σ H vs us Q I r h
  obtain ⟨a, L, Av, rfl, ha, hk, hrp, q⟩ := h
  have R0 : SetT0 X.prog X.w s.heap a L := (I.hok a _ ha).1
  obtain ⟨es, ep, t, R⟩ := R0.full fun p hp => I.isT (hk p hp)
  rw [Vals.ref1 r]
  obtain ⟨o, ho, hex, hd⟩ := R.ob
  have hsz := R.size
  have hfew := R.few
  refine sorted_gen (H := H) (Av := Av) hu fun R' hR => ?_
  refine collect_set (A := X.A.in1) (I.ok.hd hc) ⟨o, ho, hex.1, hd⟩ R.fits (by unfold scanBound; omega) R.tab.ris R.led fun s1 vs k1 hz g1 o1 pm => ?_
  have hes : es.toList.map (·.2) = L.map fun q => Value.ref q.1 := by
    rw [R.rows]
    unfold rowsOf
    rw [List.map_map] <;> rfl
  rw [hes] at pm
  have ord : ∀ vs : List Value, (∀ v ∈ vs, ∃ q ∈ L, v = Value.ref q.1) → ∃ L1 : List (Addr × List Int), vs = L1.map (fun q => Value.ref q.1) ∧ ∀ q ∈ L1, q ∈ L := by
    intro vs
    induction vs with
    | nil => intro _; exact ⟨[], rfl, fun q hq => (by cases hq)⟩
    | cons v vs ih =>
      intro hv
      obtain ⟨q, hq, e⟩ := hv v List.mem_cons_self
      obtain ⟨L1, e1, hs⟩ := ih fun u hu => hv u (List.mem_cons_of_mem _ hu)
      refine ⟨q :: L1, by rw [List.map_cons, e, e1], fun r hr => ?_⟩
      rcases List.mem_cons.mp hr with z | z
      · rw [z]; exact hq
      · exact hs r z
  have one : ∀ q ∈ L, ∀ r ∈ L, q.1 = r.1 → q = r := fun q hq r hr e => by
    have a1 := R.tup q hq
    have a2 := R.tup r hr
    rw [e] at a1
    have e2 : q.2 = r.2 := a1.inj a2
    exact Prod.ext e e2
  have perm_of : ∀ L1 : List (Addr × List Int), (∀ q ∈ L1, q ∈ L) → (L1.map (fun q => Value.ref q.1)).Perm (L.map fun q => Value.ref q.1) → L1.Perm L := by
    intro L1 hs pm1
    have nL : L.Nodup := nodup_of_map R.nd
    have nref : (L.map fun q => Value.ref q.1).Nodup := by
      refine List.pairwise_map.mpr (List.Pairwise.imp_of_mem (fun {q r} hq hr hne e => ?_) nL)
      injection e with e
      exact hne (one q hq r hr e)
    have n1 : L1.Nodup := nodup_of_map (pm1.nodup_iff.mpr nref)
    refine (List.perm_ext_iff_of_nodup n1 nL).mpr fun q => ⟨hs q, fun hq => ?_⟩
    have hm : Value.ref q.1 ∈ L1.map (fun q => Value.ref q.1) := pm1.mem_iff.mpr (List.mem_map.mpr ⟨q, hq, rfl⟩)
    obtain ⟨r, hr, e⟩ := List.mem_map.mp hm
    injection e with e
    rw [← one r (hs r hr) q hq e]
    exact hr
  obtain ⟨L1, e1, hs1⟩ := ord vs fun v hv => by
    obtain ⟨q, hq, e⟩ := List.mem_map.mp (pm.mem_iff.mp hv)
    exact ⟨q, hq, e.symm⟩
  have p1 : L1.Perm L := perm_of L1 hs1 (by rw [← e1]; exact pm)
  have hreps : ∀ M : List (Addr × List Int), (∀ q ∈ M, q ∈ L) → Reps X.K Av H ((M.map (·.2)).map tupI) (M.map fun q => V.ref q.1) := by
    intro M
    induction M with
    | nil => intro _; rfl
    | cons m M ih => intro h; exact ⟨_, _, rfl, hrp m (h m List.mem_cons_self), ih fun q hq => h q (List.mem_cons_of_mem _ hq)⟩
  rw [e1]
  refine hR s1 _ _ _ (I.call' (ch := []) o1 (Un.kept k1) (I.hok.kept k1) (by rw [g1]; exact I.bare) fun _ z => nomatch z) (vals_of_refs L1) (hreps L1 hs1) (sortOk_tups _) ?_ fun ys p h1 h2 => q R.nd ys p ?_ h2
  · rw [List.length_map, List.length_map, p1.length_eq, sizeLine_eq]
    omega
  · rw [sortD_tups, sortR_perm (p1.map _)] at h1
    exact h1
end
theorem sqt_same {K : PySem.W.Frag} {H H' : Hp} {a : Addr} {xs : List V} (e : Same H H') (h : SqT K H a xs) : SqT K H' a xs :=
  h.elim (fun h => .inl (h.elim (fun h => .inl (e _ _ h)) fun ⟨o, h⟩ => .inr ⟨o, e _ _ h⟩)) fun h => .inr h
/-- sorted(set(xs)): in order, each once -/
def dSortSet (t : DE) : DE := fun env k x => t env (fun d e => ∃ ls : List (List Int), d = .lst (ls.map tupI) ∧ ls.length < 64 ∧ ∀ ms : List (List Int), ms.Pairwise (· ≤ ·) → ms.Nodup → (∀ z, z ∈ ms ↔ z ∈ ls) → k (.lst (ms.map tupI)) e) x
theorem rep_tups {K : PySem.W.Frag} {Av : AS} {H : Hp} : ∀ {ls : List (List Int)} {vs : List V}, Reps K Av H (ls.map tupI) vs → ∃ ks : List (Addr × List Int), vs = ks.map (fun p => V.ref p.1) ∧ ks.map (·.2) = ls ∧ ∀ p ∈ ks, SqT K H p.1 (p.2.map V.int) ∧ Rep K Av H (tupI p.2) (.ref p.1)
  | [], _, h => by cases h; exact ⟨[], rfl, rfl, fun p hp => nomatch hp⟩
  | l :: ls, _, ⟨v, q, e, h1, h2⟩ => by
    subst e
    obtain ⟨ks, e1, e2, h3⟩ := rep_tups h2
    obtain ⟨a, us, rfl, na, ha, hr⟩ := id h1
    have := Reps.ints.mp hr
    subst this
    refine ⟨(a, l) :: ks, by rw [e1]; rfl, by rw [List.map_cons, e2], fun p hp => ?_⟩
    rcases List.mem_cons.mp hp with rfl | hp
    · exact ⟨SqT.of ha, h1⟩
    · exact h3 p hp
section
variable {X : Cx} {W : HW} {e : Expr} {p q pos : Pos} {t : DE}
theorem de_sortSet (hc : X.calm = true) (hu : X.A.units + 65 < cLine) (hg : Gl X "sorted") (hm : X.mg "sorted" = none) (hg2 : Gl X "set") (hm2 : X.mg "set" = none) (h : PE X e (up X.K W t)) {p2 : Pos}
    (na : starEach [.Call (.Name "set" q) [e] [] p] X.env = (false, eval (.Call (.Name "set" q) [e] [] p) X.env) :: starEach [] X.env := by rfl) (nb : starEach [e] X.env = (false, eval e X.env) :: starEach [] X.env := by rfl) :
    PE X (.Call (.Name "sorted" p2) [.Call (.Name "set" q) [e] [] p] [] pos) (upF X.K W (dSortSet t)) := by
  refine pe_conv (pe_callB (cr_sortST hc hu) hg hm PyProof.Rows.boot_sorted (pa_cons (pe_callTy (cr_setOfT hc (by omega)) hg2 hm2 PyProof.Rows.boot_set (pa_cons h pa_nil nb) (by decide) (by decide) nb rfl) pa_nil na) (by decide) (by decide) na rfl) fun σ H Q h => ?_
  obtain ⟨C, M, env, k, x, R, h, hk, hx⟩ := h
  refine ⟨C, M, env, _, x, R, h, fun a e1 v H1 M1 h1 R1 k1 g1 r1 => ?_, hx⟩
  obtain ⟨ls, rfl, hl, kd⟩ := h1
  obtain ⟨a, vs, rfl, na, ha, hr⟩ := r1
  obtain ⟨ks, rfl, e2, h3⟩ := rep_tups hr
  have hav : ∀ b, (fun a => C.G a ∨ M1 a) b → Mut (H1 b) := R1.avt
  refine ⟨a, ks, rfl, SqL.of ha, fun p hp => (h3 p hp).1, by rw [← e2, List.length_map] at hl; exact hl, fun b L hb hsub hall => ?_⟩
  have sm : Same H1 (upd H1 b (SetTO X.prog X.w b L)) := same_new hb
  refine ⟨b, L, fun a => (C.G a ∨ M1 a) ∨ a = b, rfl, upd_same, fun p hp => sqt_same sm (h3 p (hsub p hp)).1, fun p hp => ?_, fun nd ys t hy ht => ?_⟩
  · exact Rep.mono (fun c o e _ => sm c o e) (fun c hn z => z.elim id fun z => absurd hb (z ▸ hn)) _ _ (h3 p (hsub p hp)).2
  · have ht1 : H1 t = none := by
      cases e : H1 t with
      | none => rfl
      | some o => rw [sm t o e] at ht; cases ht
    have sm2 : Same H1 (upd (upd H1 b (SetTO X.prog X.w b L)) t (.lst ys)) := fun c o e => same_new ht c o (sm c o e)
    refine (R1.finF k1 g1 (kd ((L.map (·.2)).mergeSort leR) (sortR_sorted _) ?_ fun z => ?_) hk) t _ _ sm2 ht1 ⟨rfl, ys, upd_same, ?_⟩
    · exact (List.mergeSort_perm _ _).nodup_iff.mpr nd
    · rw [List.mem_mergeSort, ← e2]
      refine ⟨fun hz => ?_, fun hz => ?_⟩
      · obtain ⟨p, hp, rfl⟩ := List.mem_map.mp hz
        exact List.mem_map.mpr ⟨p, hsub p hp, rfl⟩
      · obtain ⟨p, hp, rfl⟩ := List.mem_map.mp hz
        exact hall p hp
    · refine Reps.mono (fun c o e _ => same_new ht c o e) (fun c hn z => ?_) _ _ hy
      rcases z with z | z
      · exact .inl z
      · exact absurd ht (z ▸ hn)
end

/-! ### slices -/
def cutD (ds : List D) (lo hi : Option Int) : List D := (ds.drop (HT.sIx ds.length 0 lo)).take (HT.sIx ds.length ds.length hi - HT.sIx ds.length 0 lo)
abbrev DP := Env → (Option Int → Env → Prop) → XW → Prop
def dpN : DP := fun env k _ => k none env
def dpS (t : DE) : DP := fun env k x => t env (fun d e => ∃ i, d = .int i ∧ k (some i) e) x
def upP (K : PySem.W.Frag) (W : HW) (t : DP) : TO := fun σ H Q => ∃ (C : Ctx) (M : AS) (env : Env) (k : Option Int → Env → Prop) (x : XW), Rel K C M env σ H ∧ t env k x ∧
  (∀ d env' H' M', k d env' → Rel K C M' env' σ H' → Keep M H H' → Grow M H M' → Q d H') ∧
  (∀ e env' H' M', x e env' → Rel K C M' env' σ H' → Keep M H H' → Grow M H M' → W e H')
/-- of a tuple -/
def dSlT (t : DE) (tl th : DP) : DE := fun env k x => t env (fun d e1 => tl e1 (fun lo e2 => th e2 (fun hi e3 => ∃ ds, d = .tup ds ∧ k (.tup (cutD ds lo hi)) e3) x) x) x
/-- of a list -/
def dSlL (t : DE) (tl th : DP) : DE := fun env k x => t env (fun d e1 => tl e1 (fun lo e2 => th e2 (fun hi e3 => ∃ ds, d = .lst ds ∧ k (.lst (cutD ds lo hi)) e3) x) x) x
theorem po_conv {X : Cx} {o : Option Expr} {t t' : TO} (h : PO X o t) (c : ∀ σ H Q, t' σ H Q → t σ H Q) : PO X o t' := ⟨fun pins s σ H Q I q => h.run pins s σ H Q I (c σ H Q q)⟩
theorem cut_reps {K : PySem.W.Frag} {Av : AS} {H : Hp} {ds : List D} {vs : List V} (h : Reps K Av H ds vs) (lo hi : Option Int) : Reps K Av H (cutD ds lo hi) (cutV vs lo hi) := by
  unfold cutD cutV
  rw [h.length]
  exact (h.drop _).take _
section
variable {X : Cx} {W : HW} {e lo hi : Expr} {elo ehi : Option Expr} {p q pos p2 : Pos} {t u : DE} {tl th : DP}
theorem dp_none : PO X none (upP X.K W dpN) := po_conv po_none fun σ H Q h => by
  obtain ⟨C, M, env, k, x, R, h, hk, hx⟩ := h
  exact hk none env H M h R (.refl _ _) (.refl _ _)
theorem dp_some (h : PE X e (up X.K W t)) : PO X (some e) (upP X.K W (dpS t)) := po_conv (po_some h) fun σ H Q h => by
  obtain ⟨C, M, env, k, x, R, h, hk, hx⟩ := h
  refine ⟨C, M, env, _, x, R, h, fun a e1 v H1 M1 h1 R1 k1 g1 r1 => ?_, hx⟩
  obtain ⟨i, rfl, kd⟩ := h1
  exact ⟨i, r1, hk _ _ _ _ kd R1 k1 g1⟩
theorem de_slT (he : PE X e (up X.K W t)) (hl : PO X elo (upP X.K W tl)) (hh : PO X ehi (upP X.K W th)) : PE X (.Subscript e (.Slice elo ehi none p2) pos) (up X.K W (dSlT t tl th)) :=
  pe_conv (pe_slice sl_tupA he hl hh) fun σ H Q h => by
    obtain ⟨C, M, env, k, x, R, h, hk, hx⟩ := h
    refine ⟨C, M, env, _, x, R, h, fun a e1 v H1 M1 h1 R1 k1 g1 r1 => ?_, hx⟩
    have hx1 : ∀ e env' H' M', x e env' → Rel X.K C M' env' σ H' → Keep M1 H1 H' → Grow M1 H1 M' → W e H' := fun e env' H' M' xe R' k' g' => hx e env' H' M' xe R' (k1.trans g1 k') (Grow.trans k1 g1 g')
    refine ⟨C, M1, e1, _, x, R1, h1, fun l e2 H2 M2 h2 R2 k2 g2 => ?_, hx1⟩
    have k12 := k1.trans g1 k2
    have g12 := Grow.trans k1 g1 g2
    refine ⟨C, M2, e2, _, x, R2, h2, fun u e3 H3 M3 h3 R3 k3 g3 => ?_, fun e env' H' M' xe R' k' g' => hx e env' H' M' xe R' (k12.trans g12 k') (Grow.trans k12 g12 g')⟩
    have k13 := k12.trans g12 k3
    have g13 := Grow.trans k12 g12 g3
    obtain ⟨ds, rfl, kd⟩ := h3
    have r3 := k3.rep g3 (k2.rep g2 r1)
    obtain ⟨b, vs, rfl, nb, hb, hr⟩ := id r3
    have fin := R3.fin k13 g13 kd hk
    refine ⟨b, vs, rfl, SqT.of hb, fun hw => ?_, fun hw t ht => ?_⟩
    · refine fin _ H3 (Same.refl _) ?_
      have e : cutD ds l u = ds := by
        unfold cutD
        rw [hr.length] at hw
        rw [hw.1, hw.2]
        simp
      rw [e]
      exact r3
    · exact fin _ _ (same_new ht) ⟨t, _, rfl, R3.avt.new ht, upd_same, (cut_reps hr l u).same (same_new ht)⟩
theorem de_slL (he : PE X e (up X.K W t)) (hl : PO X elo (upP X.K W tl)) (hh : PO X ehi (upP X.K W th)) : PE X (.Subscript e (.Slice elo ehi none p2) pos) (upF X.K W (dSlL t tl th)) :=
  pe_conv (pe_slice sl_list he hl hh) fun σ H Q h => by
    obtain ⟨C, M, env, k, x, R, h, hk, hx⟩ := h
    refine ⟨C, M, env, _, x, R, h, fun a e1 v H1 M1 h1 R1 k1 g1 r1 => ?_, hx⟩
    have hx1 : ∀ e env' H' M', x e env' → Rel X.K C M' env' σ H' → Keep M1 H1 H' → Grow M1 H1 M' → W e H' := fun e env' H' M' xe R' k' g' => hx e env' H' M' xe R' (k1.trans g1 k') (Grow.trans k1 g1 g')
    refine ⟨C, M1, e1, _, x, R1, h1, fun l e2 H2 M2 h2 R2 k2 g2 => ?_, hx1⟩
    have k12 := k1.trans g1 k2
    have g12 := Grow.trans k1 g1 g2
    refine ⟨C, M2, e2, _, x, R2, h2, fun u e3 H3 M3 h3 R3 k3 g3 => ?_, fun e env' H' M' xe R' k' g' => hx e env' H' M' xe R' (k12.trans g12 k') (Grow.trans k12 g12 g')⟩
    have k13 := k12.trans g12 k3
    have g13 := Grow.trans k12 g12 g3
    obtain ⟨ds, rfl, kd⟩ := h3
    have r3 := k3.rep g3 (k2.rep g2 r1)
    obtain ⟨b, vs, rfl, nb, hb, hr⟩ := id r3
    exact ⟨b, vs, rfl, SqL.of hb, fun t ht => R3.finF k13 g13 kd hk t _ _ (same_new ht) ht ⟨rfl, _, upd_same, (cut_reps hr l u).samep (same_new ht) ht⟩⟩
end

/-! ### max of a list of ints, min of a list of pairs (int, tuple of ints) -/
def maxLF : List D → Option D
  | [.lst as] => match intsOf as with
    | some (n :: ns) => some (.int (ns.foldl max n))
    | _ => none
  | _ => none
theorem foldl_max : ∀ (ns : List Int) (n : Int), (ns.foldl max n = n ∨ ns.foldl max n ∈ ns) ∧ n ≤ ns.foldl max n ∧ ∀ y ∈ ns, y ≤ ns.foldl max n
  | [], n => ⟨.inl rfl, Int.le_refl _, fun y hy => nomatch hy⟩
  | m :: ns, n => by
    obtain ⟨h1, h2, h3⟩ := foldl_max ns (max n m)
    rw [List.foldl_cons]
    refine ⟨?_, by omega, fun y hy => ?_⟩
    · rcases h1 with h1 | h1
      · rw [h1]
        rcases Int.le_total n m with h | h
        · right; rw [Int.max_eq_right h]; simp
        · left; rw [Int.max_eq_left h]
      · right; exact List.mem_cons_of_mem _ h1
    · rcases List.mem_cons.mp hy with rfl | hy
      · omega
      · exact h3 y hy
theorem c_max {K : PySem.W.Frag} : Cal K (rMax K) maxLF := ⟨fun {Av H ds d xs Q} av r e q => by
  match ds, e with
  | [.lst as], e =>
    obtain ⟨v, rfl, p, vs, rfl, np, hp, rr⟩ := r.inv1
    have e : (match intsOf as with
      | some (n :: ns) => some (D.int (ns.foldl max n))
      | _ => none) = some d := e
    cases h : intsOf as with
    | none => rw [h] at e; cases e
    | some bs =>
      rw [h] at e
      cases bs with
      | nil => cases e
      | cons n ns =>
        cases e
        have h := ints_mapM h
        subst h
        have := Reps.ints.mp rr
        subst this
        obtain ⟨m1, m2, m3⟩ := foldl_max ns n
        refine ⟨p, n :: ns, rfl, SqL.of hp, by simp, fun m h1 h2 => q _ H (Same.refl H) ?_⟩
        have e : m = ns.foldl max n := by
          have a1 : m ≤ ns.foldl max n := by
            rcases List.mem_cons.mp h1 with rfl | h1
            · exact m2
            · exact m3 m h1
          have a2 : ns.foldl max n ≤ m := by
            rcases m1 with m1 | m1
            · rw [m1]; exact h2 _ (List.mem_cons_self ..)
            · exact h2 _ (List.mem_cons_of_mem _ m1)
          omega
        rw [e]
        rfl⟩
/-- a number and a tuple of numbers -/
def prI (p : Int × List Int) : D := .tup [.int p.1, tupI p.2]
def ltP (a b : Int × List Int) : Bool := decide (a.1 < b.1 ∨ (a.1 = b.1 ∧ a.2 < b.2))
def minP (x : Int × List Int) (xs : List (Int × List Int)) : Int × List Int := xs.foldl (fun a y => if ltP y a then y else a) x
/-- min(xs) -/
def dMinP (t : DE) : DE := fun env k x => t env (fun d e => ∃ (z : Int × List Int) (zs : List (Int × List Int)), d = .lst ((z :: zs).map prI) ∧ k (prI (minP z zs)) e) x
theorem py_prI (p : Int × List Int) : py (prI p) = .tuple [.int p.1, .tuple (p.2.map .int)] := by
  rw [prI, py, pys, pys, pys, py, py_tupI]
theorem alike_prI (p q : Int × List Int) : alike (py (prI p)) (py (prI q)) = true := by
  rw [py_prI, py_prI]
  have := alike_ints p.2 q.2
  simp [alike, alikeAll, this]
theorem eqvAll_ints : ∀ xs ys : List Int, PyData.eqvAll (xs.map .int) (ys.map .int) = decide (xs = ys)
  | [], [] => by simp [PyData.eqvAll]
  | [], _ :: _ => by simp [PyData.eqvAll]
  | _ :: _, [] => by simp [PyData.eqvAll]
  | x :: xs, y :: ys => by
    show PyData.eqvAll (.int x :: xs.map .int) (.int y :: ys.map .int) = _
    rw [PyData.eqvAll, eqvAll_ints xs ys, PyData.eqv]
    by_cases h : x = y <;> by_cases h' : xs = ys <;> simp [h, h']
theorem lt_prI (p q : Int × List Int) : dataLt (py (prI p)) (py (prI q)) = ltP p q := by
  have h2 : alike (PyData.tuple (p.2.map .int)) (.tuple (q.2.map .int)) = true := by simpa [alike] using alike_ints p.2 q.2
  rw [py_prI, py_prI, PySem.W.dataLt_pair (by simp [alike]) h2, dataLt_tuple, PySem.W.dataLt_int]
  have e1 : PyProof.Rows.lexLt itemOrd (PySem.W.keyToksAll (p.2.map .int)) (PySem.W.keyToksAll (q.2.map .int)) = decide (p.2 < q.2) := dataLt_ints p.2 q.2
  rw [e1]
  have e2 : PyData.eqv (.int p.1) (.int q.1) = decide (p.1 = q.1) := by
    simp only [PyData.eqv]
    by_cases h : p.1 = q.1 <;> simp [h]
  have e3 : PyData.eqv (.tuple (p.2.map .int)) (.tuple (q.2.map .int)) = true → ¬ p.2 < q.2 := by
    intro h
    rw [PyData.eqv, eqvAll_ints] at h
    rw [of_decide_eq_true h]
    exact List.lt_irrefl _
  unfold ltP
  rw [e2]
  by_cases h : p.1 = q.1
  · cases e : PyData.eqv (.tuple (p.2.map .int)) (.tuple (q.2.map .int)) with
    | true => simp [h, e3 e]
    | false => simp [h]
  · simp [h]
theorem inj_prI {p q : Int × List Int} (h : py (prI p) = py (prI q)) : p = q := by
  rw [py_prI, py_prI] at h
  injection h with h
  injection h with h1 h2
  injection h1 with h1
  injection h2 with h2 _
  injection h2 with h2
  have : p.2 = q.2 := by
    have := congrArg (fun l => PyData.eqvAll l (q.2.map .int)) h2
    rw [eqvAll_ints, eqvAll_ints] at this
    simpa using this
  exact Prod.ext h1 this
theorem minP_mem : ∀ (xs : List (Int × List Int)) (x : Int × List Int), minP x xs ∈ x :: xs
  | [], x => List.mem_cons_self ..
  | y :: ys, x => by
    show minP (if ltP y x then y else x) ys ∈ _
    have := minP_mem ys (if ltP y x then y else x)
    by_cases h : ltP y x = true
    · rw [if_pos h] at this ⊢
      exact List.mem_cons_of_mem _ this
    · rw [if_neg h] at this ⊢
      rcases List.mem_cons.mp this with e | e
      · rw [e]; exact List.mem_cons_self ..
      · exact List.mem_cons_of_mem _ (List.mem_cons_of_mem _ e)
theorem minP_py : ∀ (xs : List (Int × List Int)) (x : Int × List Int), PySem.W.minD (py (prI x)) (xs.map fun p => py (prI p)) = py (prI (minP x xs))
  | [], _ => rfl
  | y :: ys, x => by
    show PySem.W.minD (if dataLt (py (prI y)) (py (prI x)) then py (prI y) else py (prI x)) _ = py (prI (minP (if ltP y x then y else x) ys))
    rw [lt_prI]
    by_cases h : ltP y x = true
    · rw [if_pos h, if_pos h]; exact minP_py ys y
    · rw [if_neg h, if_neg h]; exact minP_py ys x
def rMinP (K : PySem.W.Frag) : List V → Hp → VK → Prop := fun vs H Q => ∃ (a : Addr) (xs : List V) (z : Int × List Int) (zs : List (Int × List Int)) (Av : AS), vs = [V.ref a] ∧ SqL K H a xs ∧ Reps K Av H ((z :: zs).map prI) xs ∧ ∀ x, Rep K Av H (prI (minP z zs)) x → Q x H
section
variable {X : Cx}
theorem plD_prI (n : Nat) (p : Int × List Int) : plD (n + 2) (prI p) = true := by
  show plDs (n + 1) [.int p.1, tupI p.2] = true
  rw [plDs, plDs, plDs]
  have : plD (n + 1) (tupI p.2) = true := plDs_ints p.2
  rw [this]
  rfl
theorem cr_minP (hc : X.calm = true) (hu : X.A.units + 65 < cLine) : CallR X (.builtin "min") (rMinP X.K) := by
  intro pins s σ H vs us Q I r h
  obtain ⟨a, xs, z, zs, Av, rfl, hs, hr, q⟩ := h
  obtain ⟨its, rv, hl, hz⟩ := I.list hs
  rw [Vals.ref1 r]
  have pl : plDs 40 ((z :: zs).map prI) = true := by
    rw [plDs_iff]
    intro d hd
    obtain ⟨p, _, rfl⟩ := List.mem_map.mp hd
    exact plD_prI 38 p
  obtain ⟨as, ra⟩ := Dp.readsAll I _ _ its (reps_dp _ 40 _ pl hr) rv
  have e1 : pys ((z :: zs).map prI) = py (prI z) :: zs.map fun p => py (prI p) := by
    rw [pys_map, List.map_map]; rfl
  rw [e1] at ra
  have mem : ∀ d ∈ py (prI z) :: zs.map (fun p => py (prI p)), ∃ p, d = py (prI p) := fun d hd => by
    rcases List.mem_cons.mp hd with rfl | hd
    · exact ⟨z, rfl⟩
    · obtain ⟨p, _, rfl⟩ := List.mem_map.mp hd
      exact ⟨p, rfl⟩
  have hdep : ∀ ps : List (Int × List Int), PyData.depthAll (ps.map fun p => py (prI p)) ≤ 40 := by
    intro ps
    have h : plDs 40 (ps.map prI) = true := by
      rw [plDs_iff]
      intro d hd
      obtain ⟨p, _, rfl⟩ := List.mem_map.mp hd
      exact plD_prI 38 p
    have := (plDs_ok _ 40 h).2
    rw [pys_map, List.map_map] at this
    exact this
  refine PySem.W.min_list_data (I.ok.hd hc) hl.isList ra ⟨fun x hx y hy => ?_, fun x hx => ?_⟩ ?_ fun i v h' tk bs hv hm hk => ?_
  · obtain ⟨p, rfl⟩ := mem x hx
    obtain ⟨p', rfl⟩ := mem y hy
    exact alike_prI p p'
  · obtain ⟨p, rfl⟩ := mem x hx
    rw [py_prI]
    simp
  · have := hdep (z :: zs)
    rw [List.map_cons] at this
    show X.A.units + 1 + _ < cLine
    omega
  · have hv' : its[i]? = some v := by simpa using hv
    obtain ⟨x, hx, rx⟩ : ∃ x, xs[i]? = some x ∧ RelV x v := by
      cases e : xs[i]? with
      | none => rw [rv.none_of e] at hv'; cases hv'
      | some x =>
        obtain ⟨u, h1, h2⟩ := rv.get e
        rw [hv'] at h1
        cases h1
        exact ⟨x, rfl, h2⟩
    obtain ⟨d, hd, hrd⟩ := hr.getV hx
    rw [List.getElem?_map] at hd
    cases hp : (z :: zs)[i]? with
    | none => rw [hp] at hd; cases hd
    | some p =>
      rw [hp] at hd
      cases hd
      obtain ⟨as2, r2⟩ := Dp.reads I (py (prI p)) x v (rep_dp _ 40 x (plD_prI 38 p) hrd) rx
      rw [minP_py] at hm
      have ee : py (prI p) = py (prI (minP z zs)) := PySem.W.alike_unique _ _ _ _ _ (alike_prI _ _) (PyProof.Rows.Reads.keeps hk r2) hm
      have ee := inj_prI ee
      subst ee
      exact ⟨x, H, I.kept hk, rx, q x hrd⟩
end
section
variable {X : Cx} {W : HW} {e : Expr} {p q pos : Pos} {t : DE}
theorem de_minP (hc : X.calm = true) (hu : X.A.units + 65 < cLine) (hg : Gl X "min") (hm : X.mg "min" = none) (h : PE X e (up X.K W t)) (nb : starEach [e] X.env = (false, eval e X.env) :: starEach [] X.env := by rfl) {p2 : Pos} :
    PE X (.Call (.Name "min" p2) [e] [] pos) (up X.K W (dMinP t)) := by
  refine pe_conv (pe_callB (cr_minP hc hu) hg hm (by decide +kernel) (pa_cons h pa_nil nb) (by decide) (by decide) nb rfl) fun σ H Q h => ?_
  obtain ⟨C, M, env, k, x, R, h, hk, hx⟩ := h
  refine ⟨C, M, env, _, x, R, h, fun a e1 v H1 M1 h1 R1 k1 g1 r1 => ?_, hx⟩
  obtain ⟨z, zs, rfl, kd⟩ := h1
  obtain ⟨a, vs, rfl, na, ha, hr⟩ := r1
  exact ⟨a, vs, z, zs, _, rfl, SqL.of ha, hr, fun x hx => R1.fin k1 g1 kd hk _ H1 (Same.refl _) hx⟩
end

/-! ### a list times a number -/
theorem reps_flat {K : PySem.W.Frag} {Av : AS} {H : Hp} {ds : List D} {vs : List V} (h : Reps K Av H ds vs) : ∀ n : Nat, Reps K Av H (List.replicate n ds).flatten (List.replicate n vs).flatten
  | 0 => rfl
  | n + 1 => by
    rw [List.replicate_succ, List.replicate_succ, List.flatten_cons, List.flatten_cons]
    exact h.append (reps_flat h n)
theorem b_repL {K : PySem.W.Frag} : BinF K rRep repL := ⟨fun {Av H a b d x y Q} av ra rb e q => by
  cases a <;> cases b <;> first | (cases e; done) | skip
  obtain ⟨⟨h0, h1, h2⟩, rfl⟩ := ite_some e
  obtain ⟨p, vs, rfl, np, hp, r1⟩ := id ra
  have rb : y = .int _ := rb
  subst rb
  refine ⟨p, _, vs, rfl, rfl, hp, by omega, by omega, by rw [r1.length, sizeLine_eq]; exact h2, fun t ht => q t _ _ (same_new ht) ht ⟨rfl, _, upd_same, (reps_flat r1 _).samep (same_new ht) ht⟩⟩⟩
end FX

set_option Elab.async false
set_option linter.all false
set_option maxRecDepth 100000
/-! FxL: an item of an own list; slices of lists and tuples as data -/
namespace FX
open PySem PySem.Spec PyProof.Rows L2
theorem _root_.L2.Room.u65 {k : Nat} {A : Around} (r : Room k A) : A.units + 65 < cLine := by have := r.un; omega
theorem _root_.L2.Room.u64 {k : Nat} {A : Around} (r : Room k A) : A.units + 64 < cLine := by have := r.un; omega
theorem _root_.L2.Room.u1 {k : Nat} {A : Around} (r : Room k A) : A.units + 1 < cLine := by have := r.un; omega
theorem _root_.L2.Room.u0 {k : Nat} {A : Around} (r : Room k A) : A.units < cLine := by have := r.un; omega
theorem reps_atI {K : PySem.W.Frag} {Av : AS} {H : Hp} {ds : List D} {vs : List V} {i : Int} {d : D} (r : Reps K Av H ds vs) (e : atI ds i = some d) : ∃ v, atI vs i = some v ∧ Rep K Av H d v := by
  unfold atI at e ⊢
  rw [r.length]
  cases h : ixN ds.length i with
  | none => rw [h] at e; cases e
  | some j =>
    rw [h] at e
    exact r.get (i := j) e
/-- xs[j], xs an own list -/
def dItemO (i : Nat) (te : DE) : DE := fun env k x => (∃ ds, mineD env[i]? = some (.lst ds)) ∧ te env (fun j e => ∃ ds n d, j = .int n ∧ mineD e[i]? = some (.lst ds) ∧ atI ds n = some d ∧ k d e) x
/-- a slice, of whatever -/
def slD (d : D) (lo hi : Option Int) : Option D := match d with
  | .lst ds => some (.lst (cutD ds lo hi))
  | .tup ds => some (.tup (cutD ds lo hi))
  | _ => none
def dSl (t : DE) (tl th : DP) : DE := fun env k x => t env (fun d e1 => tl e1 (fun lo e2 => th e2 (fun hi e3 => ∃ d', slD d lo hi = some d' ∧ k d' e3) x) x) x
section
variable {X : Cx} {W : HW} {e e2 : Expr} {elo ehi : Option Expr} {p q pos p2 : Pos} {t u : DE} {tl th : DP}
theorem de_itemO (i : Nat) {y : Str} {py : Pos} (hy : PE X (.Name y py) (tVar i)) (hi : PE X e2 (up X.K W u)) (hs : PlainIx e2) : PE X (.Subscript (.Name y py) e2 pos) (up X.K W (dItemO i u)) := by
  refine pe_conv (pe_ix ix_seq hy hi hs) fun σ H Q h => ?_
  obtain ⟨C, M, env, k, x, R, ⟨⟨ds0, h0⟩, h⟩, hk, hx⟩ := h
  obtain ⟨p, vs, s1, m1, h1, r1, _⟩ := R.mineL h0
  refine ⟨_, s1, C, M, env, _, x, R, h, fun a e1 v H1 M1 h1 R1 k1 g1 rv => ?_, hx⟩
  obtain ⟨ds, n, d, rfl, h2, hat, kd⟩ := h1
  obtain ⟨p2, vs2, s2, m2, hp2, r2, _⟩ := R1.mineL h2
  rw [s1] at s2; cases s2
  have rv : v = .int n := rv
  subst rv
  obtain ⟨w, hw, rw'⟩ := reps_atI r2 hat
  exact .inl ⟨p, vs2, n, w, rfl, rfl, SqL.of hp2, hw, hk _ _ _ H1 M1 kd R1 k1 g1 rw'⟩
theorem de_sl (he : PE X e (up X.K W t)) (hl : PO X elo (upP X.K W tl)) (hh : PO X ehi (upP X.K W th)) : PE X (.Subscript e (.Slice elo ehi none p2) pos) (up X.K W (dSl t tl th)) :=
  pe_conv (pe_slice (sl_list.or sl_tupA) he hl hh) fun σ H Q h => by
    obtain ⟨C, M, env, k, x, R, h, hk, hx⟩ := h
    refine ⟨C, M, env, _, x, R, h, fun a e1 v H1 M1 h1 R1 k1 g1 r1 => ?_, hx⟩
    have hx1 : ∀ e env' H' M', x e env' → Rel X.K C M' env' σ H' → Keep M1 H1 H' → Grow M1 H1 M' → W e H' := fun e env' H' M' xe R' k' g' => hx e env' H' M' xe R' (k1.trans g1 k') (Grow.trans k1 g1 g')
    refine ⟨C, M1, e1, _, x, R1, h1, fun l e2 H2 M2 h2 R2 k2 g2 => ?_, hx1⟩
    have k12 := k1.trans g1 k2
    have g12 := Grow.trans k1 g1 g2
    refine ⟨C, M2, e2, _, x, R2, h2, fun u e3 H3 M3 h3 R3 k3 g3 => ?_, fun e env' H' M' xe R' k' g' => hx e env' H' M' xe R' (k12.trans g12 k') (Grow.trans k12 g12 g')⟩
    have k13 := k12.trans g12 k3
    have g13 := Grow.trans k12 g12 g3
    obtain ⟨d', hd, kd⟩ := h3
    have r3 := k3.rep g3 (k2.rep g2 r1)
    have fin := R3.fin k13 g13 kd hk
    cases a with
    | lst ds =>
      cases hd
      obtain ⟨b, vs, rfl, nb, hb, hr⟩ := id r3
      exact .inl ⟨b, vs, rfl, SqL.of hb, fun t ht => fin _ _ (same_new ht) ⟨t, _, rfl, R3.avt.new ht, upd_same, (cut_reps hr l u).same (same_new ht)⟩⟩
    | tup ds =>
      cases hd
      obtain ⟨b, vs, rfl, nb, hb, hr⟩ := id r3
      refine .inr ⟨b, vs, rfl, SqT.of hb, fun hw => ?_, fun hw t ht => ?_⟩
      · refine fin _ H3 (Same.refl _) ?_
        have e : cutD ds l u = ds := by
          unfold cutD
          rw [hr.length] at hw
          rw [hw.1, hw.2]
          simp
        rw [e]
        exact r3
      · exact fin _ _ (same_new ht) ⟨t, _, rfl, R3.avt.new ht, upd_same, (cut_reps hr l u).same (same_new ht)⟩
    | _ => cases hd
end
end FX

set_option Elab.async false
set_option linter.all false
set_option maxRecDepth 100000
/-! FxM: running readings by simp; comprehensions and loops -/
namespace FX
open PySem PySem.Spec PyProof.Rows L2
theorem x_itT (ds : List D) : itemsD (.tup ds) = some ds := rfl
theorem x_itL (ds : List D) : itemsD (.lst ds) = some ds := rfl
theorem x_itS (ns : List Int) : itemsD (.scr ns) = some (ns.map .int) := rfl
theorem x_na10 : Int.natAbs 10 = 10 := rfl
theorem x_set0 (a b c : D) : [a, b].set 0 c = [c, b] := rfl
theorem x_set1 (a b c : D) : [a, b].set 1 c = [a, c] := rfl
theorem x_ixN20 : ixN 2 0 = some 0 := by decide
theorem x_ixN21 : ixN 2 1 = some 1 := by decide
theorem ty_non : tyD .non = some "NoneType" := rfl
theorem ty_bl (b : Bool) : tyD (.bl b) = some "bool" := rfl
theorem ty_int (b : Int) : tyD (.int b) = some "int" := rfl
theorem ty_str (b : Str) : tyD (.str b) = some "str" := rfl
theorem ty_tup (b : List D) : tyD (.tup b) = some "tuple" := rfl
theorem ty_lst (b : List D) : tyD (.lst b) = some "list" := rfl
theorem x_slT (ds : List D) (lo hi : Option Int) : slD (.tup ds) lo hi = some (.tup (cutD ds lo hi)) := rfl
theorem x_slL (ds : List D) (lo hi : Option Int) : slD (.lst ds) lo hi = some (.lst (cutD ds lo hi)) := rfl
theorem tru_non : truD .non = some false := rfl
theorem tru_bl (b : Bool) : truD (.bl b) = some b := rfl
theorem tru_int (i : Int) : truD (.int i) = some (i != 0) := rfl
theorem tru_tup (ds : List D) : truD (.tup ds) = some (!ds.isEmpty) := rfl
theorem tru_lst (ds : List D) : truD (.lst ds) = some (!ds.isEmpty) := rfl
theorem x_sub (i j : Int) : subD (.int i) (.int j) = some (.int (i - j)) := rfl
theorem x_add (i j : Int) : addA (.int i) (.int j) = some (.int (i + j)) := rfl
theorem x_addT (a b : List D) : addA (.tup a) (.tup b) = if a.length + b.length ≤ 16777216 then some (.tup (a ++ b)) else none := rfl
theorem x_mul (i j : Int) : mulD (.int i) (.int j) = if (-(2 ^ 64) < i ∧ i < 2 ^ 64) ∨ (-(2 ^ 64) < j ∧ j < 2 ^ 64) then some (.int (i * j)) else none := rfl
theorem x_div (i j : Int) : divD (.int i) (.int j) = if 0 < j ∧ j < 1073741824 then some (.int (i / j)) else none := rfl
theorem x_mod (i j : Int) : modD (.int i) (.int j) = if 0 < j then some (.int (i % j)) else none := rfl
theorem x_pow (i j : Int) : powD (.int i) (.int j) = if 0 ≤ j ∧ j ≤ 1000000 ∧ i.natAbs < 2 ^ 64 then some (.int (i ^ j.toNat)) else none := rfl
theorem x_le (i j : Int) : leD (.int i) (.int j) = some (.bl (decide (i ≤ j))) := rfl
theorem x_gt (i j : Int) : gtD (.int i) (.int j) = some (.bl (decide (j < i))) := rfl
theorem x_ge (i j : Int) : geD (.int i) (.int j) = some (.bl (decide (j ≤ i))) := rfl
theorem x_lt (i j : Int) : ltD (.int i) (.int j) = some (.bl (decide (i < j))) := rfl
theorem x_neg (i : Int) : negD (.int i) = some (.int (-i)) := rfl
theorem x_catL (a b : List D) : catL (.lst a) (.lst b) = if a.length + b.length ≤ 16777216 then some (.lst (a ++ b)) else none := rfl
theorem pl_int (n : Nat) (i : Int) : plD n (.int i) = true := by cases n <;> rfl
theorem pl_bl (n : Nat) (i : Bool) : plD n (.bl i) = true := by cases n <;> rfl
theorem pl_non (n : Nat) : plD n .non = true := by cases n <;> rfl
theorem x_eq (i j : Int) : eqOp (.int i) (.int j) = some (.bl (decide (i = j))) := by
  unfold eqOp
  rw [if_pos ⟨pl_int _ _, pl_int _ _⟩]
  have : eqD (.int i) (.int j) = (i == j) := by rw [eqD]
  rw [this]
  by_cases h : i = j
  · subst h; simp
  · rw [beq_false_of_ne h, decide_eq_false h]
theorem x_ne (i j : Int) : neOp (.int i) (.int j) = some (.bl (!decide (i = j))) := by
  unfold neOp
  rw [if_pos ⟨pl_int _ _, pl_int _ _⟩]
  have : eqD (.int i) (.int j) = (i == j) := by rw [eqD]
  rw [this]
  by_cases h : i = j
  · subst h; simp
  · rw [beq_false_of_ne h, decide_eq_false h]
theorem x_isN (d : D) : isNoneOp d .non = some (.bl (isNonD d)) := rfl
theorem x_notN (d : D) : notNoneOp d .non = some (.bl (!isNonD d)) := rfl
theorem x_isB (a b : Bool) : isBlOp (.bl a) (.bl b) = some (.bl (decide (a = b))) := rfl
theorem x_notB (a b : Bool) : notBlOp (.bl a) (.bl b) = some (.bl (!decide (a = b))) := rfl
theorem x_lenT (ds : List D) : lenF [.tup ds] = some (.int ds.length) := rfl
theorem x_lenL (ds : List D) : lenF [.lst ds] = some (.int ds.length) := rfl
theorem x_lenS (ns : List Int) : lenF [.scr ns] = some (.int ns.length) := rfl
theorem x_min (i j : Int) : min2F [.int i, .int j] = some (.int (min i j)) := by
  show some (D.int (if j < i then j else i)) = _
  by_cases h : j < i
  · rw [if_pos h, Int.min_eq_right (by omega)]
  · rw [if_neg h, Int.min_eq_left (by omega)]
theorem x_max (i j : Int) : max2F [.int i, .int j] = some (.int (max i j)) := by
  show some (D.int (if j > i then j else i)) = _
  by_cases h : j > i
  · rw [if_pos h, Int.max_eq_right (by omega)]
  · rw [if_neg h, Int.max_eq_left (by omega)]
theorem x_intI (i : Int) : intF [.int i] = some (.int i) := rfl
theorem x_intB (b : Bool) : intF [.bl b] = some (.int (if b then 1 else 0)) := rfl
theorem x_tupL (ds : List D) : tupF [.lst ds] = some (.tup ds) := rfl
theorem x_tupT (ds : List D) : tupF [.tup ds] = some (.tup ds) := rfl
theorem x_lstL (ds : List D) : lstF [.lst ds] = some (.lst ds) := rfl
theorem x_lstT (ds : List D) : lstF [.tup ds] = some (.lst ds) := rfl
theorem x_ixT0 (d : D) (ds : List D) : ixD (.tup (d :: ds)) (.int 0) = some d := by
  show atI (d :: ds) 0 = _
  unfold atI ixN
  rw [if_pos (by omega), if_pos (by simp <;> omega)]; rfl
theorem x_ixT1 (a b : D) (ds : List D) : ixD (.tup (a :: b :: ds)) (.int 1) = some b := by
  show atI (a :: b :: ds) 1 = _
  unfold atI ixN
  rw [if_pos (by omega), if_pos (by simp <;> omega)]; rfl
theorem x_ixL0 (d : D) (ds : List D) : ixD (.lst (d :: ds)) (.int 0) = some d := by
  show atI (d :: ds) 0 = _
  unfold atI ixN
  rw [if_pos (by omega), if_pos (by simp <;> omega)]; rfl
theorem x_ixL1 (a b : D) (ds : List D) : ixD (.lst (a :: b :: ds)) (.int 1) = some b := by
  show atI (a :: b :: ds) 1 = _
  unfold atI ixN
  rw [if_pos (by omega), if_pos (by simp <;> omega)]; rfl
theorem take_succ_get {α : Type} {xs : List α} {i : Nat} {d : α} (h : xs[i]? = some d) : xs.take (i + 1) = xs.take i ++ [d] := by
  rw [List.take_add_one, h]; rfl
/-- a comprehension whose turns change nothing -/
theorem lc_go {src : DI} {g : DG} {tt : DT} {te : DE} {vs : List Nat} {env : Env} {k : EK} {x : XW} (items : List D) (e : Env) (F : D → Option D) (hs : ∀ K : List D → Env → Prop, K items e → src env K x) (hl : items.length ≤ 1000000)
    (h : ∀ d, d ∈ items → ∀ J : Option D → Env → Prop, J (F d) (wipeE vs e) → g d (wipeE vs e) (fun e2 => tt e2 (fun b e3 => if b = true then te e3 (fun y e4 => J (some y) (wipeE vs e4)) fls else J none (wipeE vs e3)) fls))
    (hk : k (.lst (items.filterMap F)) (wipeE vs e)) : dLc src g tt te vs env k x := by
  refine hs _ ⟨hl, fun i acc env => env = wipeE vs e ∧ acc = (items.take i).filterMap F, ⟨rfl, rfl⟩, fun i d acc env hd hI => ?_, fun acc env hI => ?_⟩
  · obtain ⟨rfl, rfl⟩ := hI
    have hj := h d (List.mem_of_getElem? hd) (fun o e' => match o with
      | some y => e' = wipeE vs e ∧ (items.take i).filterMap F ++ [y] = (items.take (i + 1)).filterMap F
      | none => e' = wipeE vs e ∧ (items.take i).filterMap F = (items.take (i + 1)).filterMap F) (by
        rw [take_succ_get hd, List.filterMap_append]
        cases hF : F d with
        | none => exact ⟨rfl, by simp [hF]⟩
        | some y => exact ⟨rfl, by simp [hF]⟩)
    exact hj
  · obtain ⟨rfl, rfl⟩ := hI
    rw [List.take_length]
    exact hk
/-- a loop, by an invariant -/
theorem for_go {src : DI} {tg : DG} {tb : DS} {k : DK} {env : Env} (items : List D) (e : Env) (I : Nat → Env → Prop) (hs : ∀ K : List D → Env → Prop, K items e → src env K k.ex) (h0 : I 0 e)
    (ht : ∀ i d env, items[i]? = some d → I i env → tg d env (fun e2 => tb { k with nx := I (i + 1), ct := I (i + 1), bk := k.nx } e2)) (hf : ∀ env, I items.length env → k.nx env) : sFor src tg tb k env :=
  hs _ ⟨I, h0, ht, hf⟩
/-- a loop over what is drawn -/
theorem for_any {src : DI} {tg : DG} {tb : DS} {k : DK} {env : Env} (P : List D → Env → Prop) (hs : ∀ K : List D → Env → Prop, (∀ items e, P items e → K items e) → src env K k.ex)
    (h : ∀ items e, P items e → ∃ I : Nat → Env → Prop, I 0 e ∧ (∀ i d env, items[i]? = some d → I i env → tg d env (fun e2 => tb { k with nx := I (i + 1), ct := I (i + 1), bk := k.nx } e2)) ∧ ∀ env, I items.length env → k.nx env) : sFor src tg tb k env := hs _ h
/-- a comprehension, by an invariant -/
theorem lc_any {src : DI} {g : DG} {tt : DT} {te : DE} {vs : List Nat} {env : Env} {k : EK} {x : XW} (P : List D → Env → Prop) (hs : ∀ K : List D → Env → Prop, (∀ items e, P items e → K items e) → src env K x)
    (h : ∀ items e, P items e → items.length ≤ 1000000 ∧ ∃ I : Nat → List D → Env → Prop, I 0 [] (wipeE vs e) ∧
      (∀ i d acc env, items[i]? = some d → I i acc env → g d env (fun e2 => tt e2 (fun b e3 => if b = true then te e3 (fun y e4 => I (i + 1) (acc ++ [y]) (wipeE vs e4)) fls else I (i + 1) acc (wipeE vs e3)) fls)) ∧
      (∀ acc env, I items.length acc env → k (.lst acc) env)) : dLc src g tt te vs env k x := hs _ h
theorem while_go {c : DT} {tb : DS} {k : DK} {env : Env} (I : Nat → Env → Prop) (h0 : ∃ m, I m env) (ht : ∀ m env, I m env → c env (fun b e => if b = true then tb { k with nx := fun e' => ∃ m', m' < m ∧ I m' e', ct := fun e' => ∃ m', m' < m ∧ I m' e', bk := k.nx } e else k.nx e) k.ex) : sWhile c tb k env := ⟨I, h0, ht⟩
/-- two loops in one comprehension, nothing changed -/
theorem lc2_go {src src1 : DI} {g g1 : DG} {tt tt1 : DT} {te : DE} {vs vs1 : List Nat} {env : Env} {k : EK} {x : XW} (items : List D) (e : Env) (G : D → Option (List D)) (F : D → D → Option D) (st : D → Env)
    (hs : ∀ K : List D → Env → Prop, K items e → src env K x)
    (hsz : ∀ i, (((items.take i).map fun d => ((G d).getD []).filterMap (F d)).flatten).length ≤ 1000000)
    (hG : ∀ d, d ∈ items → ∀ (J : Bool → Env → Prop), J (G d).isSome (st d) → g d (wipeE vs e) (fun e2 => tt e2 J fls))
    (hn : ∀ d, d ∈ items → G d = none → wipeE vs (st d) = wipeE vs e)
    (h1 : ∀ d, d ∈ items → ∀ ds, G d = some ds → ds.length ≤ 1000000 ∧ (∀ K : List D → Env → Prop, K ds (st d) → src1 (st d) K fls) ∧ wipeE vs (wipeE vs1 (st d)) = wipeE vs e ∧
      ∀ d1, d1 ∈ ds → ∀ J : Option D → Env → Prop, J (F d d1) (wipeE vs1 (st d)) → g1 d1 (wipeE vs1 (st d)) (fun e5 => tt1 e5 (fun b e6 => if b = true then te e6 (fun y e7 => J (some y) (wipeE vs1 e7)) fls else J none (wipeE vs1 e6)) fls))
    (hk : k (.lst ((items.map fun d => ((G d).getD []).filterMap (F d)).flatten)) (wipeE vs e)) : dLc2 src g tt src1 g1 tt1 te vs vs1 env k x := by
  refine hs _ ⟨fun i acc env => env = wipeE vs e ∧ acc = ((items.take i).map fun d => ((G d).getD []).filterMap (F d)).flatten, ⟨rfl, rfl⟩, fun i d acc env hd hI => ?_, fun acc env hI => ?_⟩
  · obtain ⟨rfl, rfl⟩ := hI
    have hm := List.mem_of_getElem? hd
    have ee : ((items.take (i + 1)).map fun d => ((G d).getD []).filterMap (F d)).flatten = ((items.take i).map fun d => ((G d).getD []).filterMap (F d)).flatten ++ ((G d).getD []).filterMap (F d) := by
      rw [take_succ_get hd]; simp
    refine hG d hm _ ?_
    cases hGd : G d with
    | none =>
      rw [hGd] at ee
      exact ⟨hn d hm hGd, by rw [ee]; simp⟩
    | some ds =>
      rw [hGd] at ee
      obtain ⟨hz, hsrc, hw, hstep⟩ := h1 d hm ds hGd
      refine hsrc _ ⟨fun j acc1 env1 => env1 = wipeE vs1 (st d) ∧ acc1 = ((items.take i).map fun d => ((G d).getD []).filterMap (F d)).flatten ++ (ds.take j).filterMap (F d), ⟨rfl, by simp⟩, fun j d1 acc1 env1 hd1 hI1 => ?_, fun acc1 env1 hI1 => ?_⟩
      · obtain ⟨rfl, rfl⟩ := hI1
        have hj := hstep d1 (List.mem_of_getElem? hd1) (fun o e' => match o with
          | some y => (((items.take i).map fun d => ((G d).getD []).filterMap (F d)).flatten ++ (ds.take j).filterMap (F d)).length < 16777216 ∧ e' = wipeE vs1 (st d) ∧ (((items.take i).map fun d => ((G d).getD []).filterMap (F d)).flatten ++ (ds.take j).filterMap (F d)) ++ [y] = ((items.take i).map fun d => ((G d).getD []).filterMap (F d)).flatten ++ (ds.take (j + 1)).filterMap (F d)
          | none => e' = wipeE vs1 (st d) ∧ ((items.take i).map fun d => ((G d).getD []).filterMap (F d)).flatten ++ (ds.take j).filterMap (F d) = ((items.take i).map fun d => ((G d).getD []).filterMap (F d)).flatten ++ (ds.take (j + 1)).filterMap (F d)) (by
            rw [take_succ_get hd1, List.filterMap_append]
            cases hF : F d d1 with
            | none => exact ⟨rfl, by simp [hF]⟩
            | some y =>
              refine ⟨?_, rfl, by simp [hF]⟩
              rw [List.length_append]
              have h1 := hsz i
              have h2 : ((ds.take j).filterMap (F d)).length ≤ (ds.take j).length := List.length_filterMap_le ..
              have h3 : (ds.take j).length ≤ ds.length := by rw [List.length_take]; omega
              omega)
        exact hj
      · obtain ⟨rfl, rfl⟩ := hI1
        refine ⟨hw, ?_⟩
        rw [ee, List.take_length]; rfl
  · obtain ⟨rfl, rfl⟩ := hI
    rw [List.take_length]
    exact hk
end FX

set_option Elab.async false
set_option linter.all false
set_option maxRecDepth 100000
/-! FxN: name = [..] on one line over an own dict, or reading own things; {(): 0} -/
namespace FX
open PySem PySem.Spec PyProof.Rows L2
theorem sim_purF {K : PySem.W.Frag} {W : HW} {t : DE} {σ : L2.St} {H : Hp} {Q : VK} (h : upF K W (dPurF t) σ H Q) : upF K W t σ H Q := by
  obtain ⟨C, M, env, k, x, R, h, hk, hx⟩ := h
  refine ⟨C, _, _, _, _, R.seen, h, fun d e1 p v H1 M1 h1 R1 k1 g1 hp c => ?_, fun e env' H' M' xe _ _ _ => xe.elim⟩
  obtain ⟨i, kd⟩ := h1
  have R2 := R.add k1.toSame hp c.mut
  refine hk d env p v H1 M kd R2 (.same k1.toSame) (.refl _ _) hp ?_
  cases d with
  | lst ds =>
    obtain ⟨e, vs, h, r⟩ := c
    refine ⟨e, vs, h, Reps.imm (fun a z => ?_) ds vs i r⟩
    rcases z with z | z
    · exact .inl (.inl z)
    · exact .inr (R2.mm a z)
  | non | bl _ | int _ | str _ | tup _ | dI _ | dT _ | scr _ | obj _ _ => cases i
section
variable {X : Cx} {W : HW} {fr : Bool} {st : Stmt} {i : Nat} {T : TE} {t : DE}
theorem ds_asgT (h : PS X st (tAsg T (gName i))) (c : ∀ σ H Q, up X.K W t σ H Q → T σ H Q) : PS X st (upS X.K W fr (sAsg i t)) := by
  refine ps_conv h fun D σ H h => ?_
  obtain ⟨C, M, env, k, R, h, hn, hr, hx, _⟩ := h
  exact c _ _ _ ⟨C, M, env, _, _, R, h, fun d e1 v H1 M1 h1 R1 k1 g1 r1 => hn _ _ H1 M1 h1 (R1.storeF r1) k1 g1, fun e env' H' M' xe R' k' g' => hx e env' σ H' M' xe R' k' g'⟩
theorem ds_asgK (h : PS X st (tAsg T (gName i))) (c : ∀ σ H Q, up X.K W t σ H Q → T σ H Q ∨ tLockE T σ H Q) : PS X st (upS X.K W fr (sAsg i t)) := by
  refine ps_conv (ps_orC h) fun D σ H h => ?_
  obtain ⟨C, M, env, k, R, h, hn, hr, hx, _⟩ := h
  exact c σ H (fun x H1 => gName i x σ H1 D.nx) ⟨C, M, env, _, _, R, h, fun d e1 v H1 M1 h1 R1 k1 g1 r1 => hn _ _ H1 M1 h1 (R1.storeF r1) k1 g1, fun e env' H' M' xe R' k' g' => hx e env' σ H' M' xe R' k' g'⟩
end
section
variable {X : Cx} {elt tg iter c : Expr} {scope : Scope} {own : List (Str × Nat)} {pos : Pos} {src : DI} {g : DG} {tt : DT} {te : DE} {ifs : List Expr} {fr : Bool} {i j : Nat} {y z : Str} {py pz spos : Pos}
/-- .. that reads own things -/
theorem ds_setLcP {W : HW} (vs : List Nat) (hv : own.map (·.2) = vs) (hc : X.calm = true) (hN : X.N.Nodup) (hy : X.N[i]? = some y) (hyl : X.env.scope.names.lookup y = some .local)
    (hsw : swapsWith (.ListComp elt [⟨tg, iter, ifs, 0⟩] scope pos) (some (.Name y py)) spos.line X.env = pure true) (hi : PI X tg iter (upI X.K W src)) (ok : BlkOk X.N X.env.scope scope own)
    (hg : ∀ (s : Shared) (H : Hp) (C : Addr) (cl : List (Str × Addr)) (fp : List Addr), PG (X.blk s H scope (compEnvC scope cl C X.env) fp) tg (upG X.K vs g)) (ht : ∀ (s : Shared) (H : Hp) (C : Addr) (cl : List (Str × Addr)) (fp : List Addr), PTs (X.blk s H scope (compEnvC scope cl C X.env) fp) ifs (upT X.K W0 tt))
    (he : ∀ (s : Shared) (H : Hp) (C : Addr) (cl : List (Str × Addr)) (fp : List Addr), PE (X.blk s H scope (compEnvC scope cl C X.env) fp) elt (up X.K W0 te)) (hs : ∀ x, foldedSetIterable iter X.env x = pure x := by intro _; rfl) :
    PS X (.Assign [.Name y py] (.ListComp elt [⟨tg, iter, ifs, 0⟩] scope pos) spos) (upS X.K W fr (sAsg i (dPurF (dLc src g tt te vs)))) := by
  subst hv
  exact ds_asgT (ps_setLc hc hN hy hyl hsw hi ok hg ht he hs) fun _ _ _ h => sim_lc (sim_purF (up_of_upF h))
/-- .. over a dict -/
theorem ds_setLcK (vs : List Nat) (hv : own.map (·.2) = vs) (hc : X.calm = true) (hN : X.N.Nodup) (hy : X.N[i]? = some y) (hyl : X.env.scope.names.lookup y = some .local)
    (hsw : swapsWith (.ListComp elt [⟨tg, .Name z pz, ifs, 0⟩] scope pos) (some (.Name y py)) spos.line X.env = pure true) (hz : PE X (.Name z pz) (tVar j)) (ok : BlkOk X.N X.env.scope scope own)
    (hg : ∀ (s : Shared) (H : Hp) (C : Addr) (cl : List (Str × Addr)) (fp : List Addr), PG (X.blk s H scope (compEnvC scope cl C X.env) fp) tg (upG X.K vs g)) (ht : ∀ (s : Shared) (H : Hp) (C : Addr) (cl : List (Str × Addr)) (fp : List Addr), PTs (X.blk s H scope (compEnvC scope cl C X.env) fp) ifs (upT X.K W0 tt))
    (he : ∀ (s : Shared) (H : Hp) (C : Addr) (cl : List (Str × Addr)) (fp : List Addr), PE (X.blk s H scope (compEnvC scope cl C X.env) fp) elt (up X.K W0 te)) (hs : ∀ x, foldedSetIterable (.Name z pz) X.env x = pure x := by intro _; rfl) :
    PS X (.Assign [.Name y py] (.ListComp elt [⟨tg, .Name z pz, ifs, 0⟩] scope pos) spos) (upS X.K W0 fr (sAsg i (dPurF (dLcK j g tt te vs)))) := by
  subst hv
  exact ds_asgK (ps_setLc hc hN hy hyl hsw (pi_keys hz) ok hg ht he hs) fun σ H Q h => sim_lockE (i := j) (t := dLc (diKeys j) g tt te _) (fun σ H Q hl h => upF_lcK hl h) (fun _ _ _ z => z) (sim_purF (up_of_upF h))
end
/-! ### {k: v}, k a tuple -/
def tDispT1 (tk tv : TE) : TE := fun σ H Q => ∀ p, H p = none → tk σ (upd H p (.dT [])) fun x H1 => tv σ H1 fun y H2 => H2 p = some (.dT []) ∧ ∃ (b : Addr) (k : List Key), x = .ref b ∧ H2 b = some (.tup (k.map kV)) ∧ Q (.ref p) (upd H2 p (.dT [(k, y)]))
theorem pe_dispT1 {X : Cx} {pos : Pos} {k v : Expr} {tk tv : TE} (hu : X.A.units + 1 < cLine) (hk : PE X k tk) (hv : PE X v tv) : PE X (.Dict [some k] [v] pos) (tDispT1 tk tv) := by
  refine ⟨fun pins s σ H Q I q => ?_⟩
  have hn := I.hok.fresh (Nat.le_refl s.heap.objs.size)
  have I1 := I.laid (a := s.heap.objs.size) (o := .dT []) (h' := s.heap.push { cls := .type "dict", data := .dict #[] }) (t' := s.toks) (fun _ _ q => Heap.get?_push_of_some _ q) (Nat.le_refl _) (dt_empty s.heap I.big)
  have hlen := pairTrees_length [some k] [v] X.env pos rfl rfl
  have h0 : pairTrees [some k] [v] X.env pos ≠ [] := fun e => by rw [e] at hlen; cases hlen
  rw [arm_eval_Dict, zip_pairTrees [some k] [v] X.env pos rfl rfl, dictDisplay_pairs _ h0 (by rw [hlen]; simp)]
  refine wpAny_bind (wpAny_standAt (wpAny_bind (wpAny_subDictH (knd := tupleKind (mixKind X.prog X.w)) (Q := fun d s' => wpAny (model X.prog X.w) X.A (pure (Value.ref d)) (EP X pins σ Q) X.xe s') (show X.A.units < cLine by omega) (by rw [hlen]; simp) ?_)))
  refine pairTrees_cons_walk (thn (hk.run pins _ σ _ _ I1 (q _ hn)) fun u s1 ⟨x, H1, I2, rx, q1⟩ => thn (hv.run pins s1 σ H1 _ I2 q1) fun w2 s2 ⟨y, H2, I3, ry, q2⟩ => pairTrees_nil_walk ?_)
  obtain ⟨hp, b, kk, rfl, hb, q3⟩ := q2
  cases rx
  obtain ⟨z, hd, xs, rel, dd⟩ := dt_of I3.hok hp
  cases rel
  refine ⟨[(kk, b, w2)], ⟨rfl, rfl, key_of I3.hok hb, trivial⟩, dd, fun h' tk2 dd' hs => wpAny_pure ⟨.ref s.heap.objs.size, _, ?_, rfl, q3⟩⟩
  have e : storedAllH ([] : List (List Key × Addr × Value)) [(kk, b, w2)] = [(kk, b, w2)] := storedAllH_nil_of_nodup _ (by simp)
  rw [e] at dd'
  obtain ⟨o, es, ep, hq, h2, h3, h4, _, h5⟩ := dd'
  have I4 := d_write I3 (t' := tk2) (by rw [hp]; exact True.intro) hs ⟨o, hq⟩ (show ObjOk X.prog X.w _ _ _ (.dT [(kk, y)]) from ⟨by rw [sizeLine_eq]; simp, hd, [(kk, b, w2)], .cons ⟨rfl, ?_, ry⟩ .nil, o, es, ep, hq, h2, h3, h4, h5⟩)
  · exact I4
  · rw [upd_ne (ne_of hb hp (fun z => nomatch z))]
    exact hb
def dDict1 (tk tv : DE) : DE := fun env k x => tk env (fun kd e => tv e (fun vd e2 => ∃ ns, kd = tupI ns ∧ k (.dT [(ns, vd)]) e2) x) x
theorem de_dict1 {X : Cx} {W : HW} {pos : Pos} {k v : Expr} {tk tv : DE} (hu : X.A.units + 1 < cLine) (hk : PE X k (up X.K W tk)) (hv : PE X v (up X.K W tv)) (hW : ∀ e H H', W e H → W e H') : PE X (.Dict [some k] [v] pos) (upF X.K W (dDict1 tk tv)) := by
  refine pe_conv (pe_dispT1 hu hk hv) fun σ H Q h => ?_
  obtain ⟨C, M, env, kk, x, R, h, hkk, hx⟩ := h
  intro p hp
  have R0 : Rel X.K (C.add p) M env σ (upd H p (.dT [])) := R.add (same_new hp) hp (by rw [upd_same]; trivial)
  have s0 : Same H (upd H p (.dT [])) := same_new hp
  have np : ∀ a o, H a = some o → a ≠ p := fun a o e z => by rw [z, hp] at e; cases e
  have kU : ∀ {M : AS} {H' : Hp}, Keep M (upd H p (.dT [])) H' → Keep M H H' := fun {M H'} k => ⟨fun a o e n => k.kp a o (by rw [upd_ne (np a o e)]; exact e) n, fun a n => k.th a (by
    cases e : H a with
    | none => exact absurd e n
    | some o => rw [upd_ne (np a o e), e]; simp)⟩
  have gU : ∀ {M' : AS}, Grow M (upd H p (.dT [])) M' → Grow M H M' := fun {M'} g a z => (g a z).elim .inl fun q => .inr (by
    by_cases e : a = p
    · rw [e]; exact hp
    · rw [upd_ne e] at q; exact q)
  refine ⟨C.add p, M, env, _, x, R0, h, fun kd e1 va H1 M1 h1 R1 k1 g1 r1 => ?_, fun e env' H' M' xe R' k' g' => hx e env' H' M' xe R'.drop (kU k') (gU g')⟩
  refine ⟨C.add p, M1, e1, _, x, R1, h1, fun vd e2 vb H2 M2 h2 R2 k2 g2 r2 => ?_, fun e env' H' M' xe R' k' g' => hx e env' H' M' xe R'.drop (kU (k1.trans g1 k')) (gU (Grow.trans k1 g1 g'))⟩
  obtain ⟨ns, rfl, kd⟩ := h2
  have k12 := k1.trans g1 k2
  have g12 := Grow.trans k1 g1 g2
  have hp2 : H2 p = some (.dT []) := k12.kp p _ upd_same (R0.gm p (.inr rfl))
  obtain ⟨b, vs, rfl, nb, hb, hr⟩ := k2.rep g2 r1
  have := Reps.ints.mp hr
  subst this
  refine ⟨hp2, b, kT ns, rfl, ?_, ?_⟩
  · rw [hb]
    have e2 : (kT ns).map kV = ns.map V.int := by unfold kT; rw [List.map_map]; rfl
    rw [e2]
  · refine hkk _ e2 p (.ref p) _ M2 kd (R2.touch (.inr rfl) trivial) ?_ (gU g12) hp ⟨rfl, [(kT ns, vb)], upd_same, vb, [], rfl, Rep.mono (fun a o e n => ?_) (fun _ _ z => z) _ _ r2, rfl⟩
    · refine ⟨fun a o e n => ?_, fun a n => ?_⟩
      · rw [upd_ne (np a o e)]
        exact (kU k12).kp a o e n
      · by_cases z : a = p
        · rw [z, upd_same]; simp
        · rw [upd_ne z]; exact (kU k12).th a n
    · rw [upd_ne fun z => n (.inl (.inr z))]
      exact e
end FX

set_option Elab.async false
set_option linter.all false
set_option maxRecDepth 100000
/-! MathA: warrens, lots, where the fox can be behind a day -/
namespace MA
open FX
/-! ### strictly ascending lists -/
def Asc (l : List Int) : Prop := l.Pairwise (· < ·)
theorem asc_ext : ∀ {l m : List Int}, Asc l → Asc m → (∀ z, z ∈ l ↔ z ∈ m) → l = m
  | [], [], _, _, _ => rfl
  | [], b :: m, _, _, h => by have := (h b).mpr (List.mem_cons_self ..); cases this
  | a :: l, [], _, _, h => by have := (h a).mp (List.mem_cons_self ..); cases this
  | a :: l, b :: m, h1, h2, h => by
    have p1 := List.pairwise_cons.mp h1
    have p2 := List.pairwise_cons.mp h2
    have e : a = b := by
      rcases List.mem_cons.mp ((h a).mp (List.mem_cons_self ..)) with e | e
      · exact e
      · rcases List.mem_cons.mp ((h b).mpr (List.mem_cons_self ..)) with e2 | e2
        · exact e2.symm
        · have := p2.1 a e; have := p1.1 b e2; omega
    subst e
    rw [asc_ext p1.2 p2.2 fun z => ?_]
    constructor
    · intro hz
      rcases List.mem_cons.mp ((h z).mp (List.mem_cons_of_mem _ hz)) with e | e
      · subst e; have := p1.1 z hz; omega
      · exact e
    · intro hz
      rcases List.mem_cons.mp ((h z).mpr (List.mem_cons_of_mem _ hz)) with e | e
      · subst e; have := p2.1 z hz; omega
      · exact e
theorem asc_of_sorted : ∀ {l : List Int}, l.Pairwise (· ≤ ·) → l.Nodup → Asc l
  | [], _, _ => List.Pairwise.nil
  | a :: l, h1, h2 => by
    have p1 := List.pairwise_cons.mp h1
    have p2 := List.nodup_cons.mp h2
    refine List.pairwise_cons.mpr ⟨fun b hb => ?_, asc_of_sorted p1.2 p2.2⟩
    have := p1.1 b hb
    have : a ≠ b := fun e => p2.1 (e ▸ hb)
    omega
theorem Asc.nodup {l : List Int} (h : Asc l) : l.Nodup := h.imp fun {a b} q => by omega
theorem Asc.filter {l : List Int} (h : Asc l) (p : Int → Bool) : Asc (l.filter p) := h.sublist List.filter_sublist
/-- 0 .. n-1 -/
def upto (n : Nat) : List Int := (List.range n).map fun i => ((i : Nat) : Int)
theorem mem_upto {n : Nat} {z : Int} : z ∈ upto n ↔ 0 ≤ z ∧ z < n := by
  unfold upto
  rw [List.mem_map]
  constructor
  · rintro ⟨i, hi, rfl⟩
    have := List.mem_range.mp hi
    omega
  · rintro ⟨h1, h2⟩
    exact ⟨z.toNat, List.mem_range.mpr (by omega), by omega⟩
theorem asc_upto (n : Nat) : Asc (upto n) := by
  unfold upto Asc
  rw [List.pairwise_map]
  exact List.pairwise_lt_range.imp fun {a b} h => by omega
theorem sort_asc {l m : List Int} (hn : l.Nodup) (hm : Asc m) (h : ∀ z, z ∈ l ↔ z ∈ m) : l.mergeSort leI = m := by
  refine asc_ext (asc_of_sorted (sortI_sorted l) ((List.mergeSort_perm _ _).nodup_iff.mpr hn)) hm fun z => ?_
  rw [List.mem_mergeSort]
  exact h z
/-- strictly up -/
def incr : List Int → Bool
  | a :: b :: r => decide (a < b) && incr (b :: r)
  | _ => true
theorem incr_asc : ∀ {l : List Int}, incr l = true ↔ Asc l
  | [] => by simp [incr, Asc]
  | [a] => by simp [incr, Asc]
  | a :: b :: r => by
    rw [incr, Bool.and_eq_true, incr_asc (l := b :: r), decide_eq_true_iff]
    unfold Asc
    constructor
    · rintro ⟨h1, h2⟩
      refine List.pairwise_cons.mpr ⟨fun z hz => ?_, h2⟩
      rcases List.mem_cons.mp hz with rfl | hz
      · exact h1
      · have := (List.pairwise_cons.mp h2).1 z hz; omega
    · intro h
      have p := List.pairwise_cons.mp h
      exact ⟨p.1 b (List.mem_cons_self ..), p.2⟩

/-! ### warrens -/
structure Wn where
  n : Nat
  E : List (Int × Int)
def ltE (p q : Int × Int) : Prop := p.1 < q.1 ∨ (p.1 = q.1 ∧ p.2 < q.2)
structure WOk (w : Wn) : Prop where
  lo : 2 ≤ w.n
  hi : w.n ≤ 10
  asc : w.E.Pairwise ltE
  rng : ∀ p ∈ w.E, 0 ≤ p.1 ∧ p.1 < p.2 ∧ p.2 < w.n
  cov : ∀ h : Int, 0 ≤ h → h < w.n → ∃ p ∈ w.E, h = p.1 ∨ h = p.2
def prE (p : Int × Int) : D := tupI [p.1, p.2]
def wD (w : Wn) : D := .tup [.int w.n, .tup (w.E.map prE)]
def LotOk (n : Nat) (l : List Int) : Prop := Asc l ∧ ∀ z ∈ l, 0 ≤ z ∧ z < n
/-- a passage joins them -/
def joins (w : Wn) (a b : Int) : Bool := decide ((min a b, max a b) ∈ w.E) && decide (a ≠ b)
def near (w : Wn) (h : Int) : List Int := (upto w.n).filter fun o => joins w o h
theorem asc_near (w : Wn) (h : Int) : Asc (near w h) := (asc_upto _).filter _
theorem mem_near {w : Wn} {h o : Int} : o ∈ near w h ↔ (0 ≤ o ∧ o < w.n) ∧ joins w o h = true := by
  unfold near; rw [List.mem_filter, mem_upto]
theorem joins_comm (w : Wn) (a b : Int) : joins w a b = joins w b a := by
  unfold joins
  rw [Int.min_comm, Int.max_comm]
  congr 1
  exact decide_eq_decide.mpr ⟨Ne.symm, Ne.symm⟩
theorem joins_iff {w : Wn} (ok : WOk w) {a b : Int} : joins w a b = true ↔ (a, b) ∈ w.E ∨ (b, a) ∈ w.E := by
  unfold joins
  rw [Bool.and_eq_true, decide_eq_true_iff, decide_eq_true_iff]
  constructor
  · rintro ⟨h, hne⟩
    rcases Int.le_total a b with c | c
    · rw [Int.min_eq_left c, Int.max_eq_right c] at h; exact .inl h
    · rw [Int.min_eq_right c, Int.max_eq_left c] at h; exact .inr h
  · rintro (h | h)
    · have r := ok.rng _ h
      have c : a ≤ b := by have := r.2.1; simp only at this; omega
      refine ⟨by rw [Int.min_eq_left c, Int.max_eq_right c]; exact h, by have := r.2.1; simp only at this; omega⟩
    · have r := ok.rng _ h
      have c : b ≤ a := by have := r.2.1; simp only at this; omega
      refine ⟨by rw [Int.min_eq_right c, Int.max_eq_left c]; exact h, by have := r.2.1; simp only at this; omega⟩
/-- where it can be behind a day -/
def later (w : Wn) (S L : List Int) : List Int := (upto w.n).filter fun o => S.any fun h => !L.contains h && (near w h).contains o
theorem asc_later (w : Wn) (S L : List Int) : Asc (later w S L) := (asc_upto _).filter _
theorem mem_later {w : Wn} {S L : List Int} {o : Int} : o ∈ later w S L ↔ ∃ h ∈ S, h ∉ L ∧ o ∈ near w h := by
  unfold later
  rw [List.mem_filter, mem_upto, List.any_eq_true]
  constructor
  · rintro ⟨_, h, hS, hh⟩
    rw [Bool.and_eq_true, Bool.not_eq_true', List.contains_iff_mem] at hh
    exact ⟨h, hS, by simpa using hh.1, hh.2⟩
  · rintro ⟨h, hS, hL, ho⟩
    refine ⟨(mem_near.mp ho).1, h, hS, ?_⟩
    rw [Bool.and_eq_true, Bool.not_eq_true', List.contains_iff_mem]
    exact ⟨by simpa using hL, ho⟩
theorem later_ok (w : Wn) (S L : List Int) : LotOk w.n (later w S L) := ⟨asc_later w S L, fun z hz => by
  obtain ⟨h, _, _, ho⟩ := mem_later.mp hz
  exact (mem_near.mp ho).1⟩
/-- what next_to gathers -/
def gath (w : Wn) (h : Int) : List Int := (w.E.map fun p => [p.1, p.2].filter fun o => decide (h = p.1 ∨ h = p.2) && decide (o ≠ h)).flatten
theorem mem_gath {w : Wn} (ok : WOk w) {h o : Int} : o ∈ gath w h ↔ o ∈ near w h := by
  rw [mem_near, joins_iff ok]
  unfold gath
  rw [List.mem_flatten]
  constructor
  · rintro ⟨l, hl, ho⟩
    obtain ⟨p, hp, rfl⟩ := List.mem_map.mp hl
    obtain ⟨h1, h2⟩ := List.mem_filter.mp ho
    rw [Bool.and_eq_true, decide_eq_true_iff, decide_eq_true_iff] at h2
    have r := ok.rng p hp
    rcases List.mem_cons.mp h1 with e | h1
    · refine ⟨by omega, ?_⟩
      rcases h2.1 with q | q
      · exact absurd (e.trans q.symm) h2.2
      · subst e q; exact .inl hp
    · have e := List.mem_singleton.mp h1
      refine ⟨by omega, ?_⟩
      rcases h2.1 with q | q
      · subst e q; exact .inr hp
      · exact absurd (e.trans q.symm) h2.2
  · rintro ⟨_, hp | hp⟩
    · have r := ok.rng _ hp
      refine ⟨_, List.mem_map.mpr ⟨_, hp, rfl⟩, List.mem_filter.mpr ⟨List.mem_cons_self .., ?_⟩⟩
      rw [Bool.and_eq_true, decide_eq_true_iff, decide_eq_true_iff]
      refine ⟨.inr rfl, ?_⟩
      have := r.2.1; simp only at this ⊢; omega
    · have r := ok.rng _ hp
      refine ⟨_, List.mem_map.mpr ⟨_, hp, rfl⟩, List.mem_filter.mpr ⟨List.mem_cons_of_mem _ (List.mem_singleton.mpr rfl), ?_⟩⟩
      rw [Bool.and_eq_true, decide_eq_true_iff, decide_eq_true_iff]
      refine ⟨.inl rfl, ?_⟩
      have := r.2.1; simp only at this ⊢; omega
theorem nodup_gath {w : Wn} (ok : WOk w) (h : Int) : (gath w h).Nodup := by
  unfold gath
  have asc := ok.asc
  have rng := ok.rng
  generalize w.E = E at asc rng
  induction E with
  | nil => exact List.nodup_nil
  | cons p E ih =>
    have pa := List.pairwise_cons.mp asc
    rw [List.map_cons, List.flatten_cons, List.nodup_append]
    have r := rng p (List.mem_cons_self ..)
    refine ⟨?_, ih pa.2 fun q hq => rng q (List.mem_cons_of_mem _ hq), ?_⟩
    · refine List.Nodup.sublist List.filter_sublist ?_
      have : p.1 ≠ p.2 := by omega
      simp [this]
    · intro a ha b hb e
      subst e
      obtain ⟨h1, h2⟩ := List.mem_filter.mp ha
      obtain ⟨l, hl, hb⟩ := List.mem_flatten.mp hb
      obtain ⟨q, hq, rfl⟩ := List.mem_map.mp hl
      obtain ⟨h3, h4⟩ := List.mem_filter.mp hb
      rw [Bool.and_eq_true, decide_eq_true_iff, decide_eq_true_iff] at h2 h4
      have rq := rng q (List.mem_cons_of_mem _ hq)
      have lt := pa.1 q hq
      unfold ltE at lt
      simp only [List.mem_cons, List.not_mem_nil, or_false] at h1 h3
      omega
theorem sort_gath {w : Wn} (ok : WOk w) (h : Int) : (gath w h).mergeSort leI = near w h := sort_asc (nodup_gath ok h) (asc_near w h) fun z => mem_gath ok
theorem near_ok {w : Wn} {h : Int} {z : Int} (hz : z ∈ near w h) : 0 ≤ z ∧ z < w.n := (mem_near.mp hz).1
theorem len_upto (n : Nat) : (upto n).length = n := by simp [upto]
theorem len_near (w : Wn) (h : Int) : (near w h).length ≤ w.n := by
  have := List.length_filter_le (fun o => joins w o h) (upto w.n)
  rw [len_upto] at this
  exact this
/-- a few ints below n -/
theorem len_lot {n : Nat} {l : List Int} (h : LotOk n l) : l.length ≤ n := by
  have : l = (upto n).filter (fun z => l.contains z) := asc_ext h.1 ((asc_upto n).filter _) fun z => by
    rw [List.mem_filter, mem_upto, List.contains_iff_mem]
    exact ⟨fun hz => ⟨h.2 z hz, hz⟩, fun hz => hz.2⟩
  rw [this]
  have := List.length_filter_le (fun z => l.contains z) (upto n)
  rw [len_upto] at this
  exact this
theorem len_E {w : Wn} (ok : WOk w) : w.E.length ≤ 100 := by
  have h1 : (w.E.map fun p => p.1 * 10 + p.2).Pairwise (· < ·) := by
    rw [List.pairwise_map]
    refine ok.asc.imp_of_mem fun {p q} hp hq h => ?_
    have rp := ok.rng p hp
    have rq := ok.rng q hq
    have := ok.hi
    unfold ltE at h
    omega
  have h2 : LotOk 100 (w.E.map fun p => p.1 * 10 + p.2) := ⟨h1, fun z hz => by
    obtain ⟨p, hp, rfl⟩ := List.mem_map.mp hz
    have rp := ok.rng p hp
    have := ok.hi
    omega⟩
  have := len_lot h2
  rw [List.length_map] at this
  exact this
end MA

set_option Elab.async false
set_option linter.all false
set_option maxRecDepth 100000
/-! SpecA: what the package's defs promise, at the laws' inputs -/
namespace FX
theorem isi1 : isiT "int" "int" = true := by decide
theorem isi2 : isiT "int" "bool" = false := by decide
theorem isi3 : isiT "int" "tuple" = false := by decide
theorem isi4 : isiT "int" "list" = false := by decide
theorem isi5 : isiT "bool" "int" = true := by decide
theorem isi6 : isiT "bool" "bool" = true := by decide
theorem isi7 : isiT "bool" "tuple" = false := by decide
theorem isi8 : isiT "bool" "list" = false := by decide
theorem isi9 : isiT "NoneType" "int" = false := by decide
theorem isi10 : isiT "NoneType" "bool" = false := by decide
theorem isi11 : isiT "NoneType" "tuple" = false := by decide
theorem isi12 : isiT "NoneType" "list" = false := by decide
theorem isi13 : isiT "str" "int" = false := by decide
theorem isi14 : isiT "str" "bool" = false := by decide
theorem isi15 : isiT "str" "tuple" = false := by decide
theorem isi16 : isiT "str" "list" = false := by decide
theorem isi17 : isiT "tuple" "int" = false := by decide
theorem isi18 : isiT "tuple" "bool" = false := by decide
theorem isi19 : isiT "tuple" "tuple" = true := by decide
theorem isi20 : isiT "tuple" "list" = false := by decide
theorem isi21 : isiT "list" "int" = false := by decide
theorem isi22 : isiT "list" "bool" = false := by decide
theorem isi23 : isiT "list" "tuple" = false := by decide
theorem isi24 : isiT "list" "list" = true := by decide
theorem x_w0 (w : MA.Wn) : ixD (MA.wD w) (.int 0) = some (.int w.n) := x_ixT0 _ _
theorem x_w1 (w : MA.Wn) : ixD (MA.wD w) (.int 1) = some (.tup (w.E.map MA.prE)) := x_ixT1 _ _ _
theorem x_ty (w : MA.Wn) : tyD (MA.wD w) = some "tuple" := rfl
theorem x_tyT (l : List Int) : tyD (tupI l) = some "tuple" := rfl
theorem x_truT (l : List Int) : truD (tupI l) = some (!l.isEmpty) := by cases l <;> rfl
theorem x_lenI (l : List Int) : lenF [tupI l] = some (.int l.length) := by
  show some (D.int ((l.map D.int).length : Nat)) = _
  rw [List.length_map]
theorem x_itI (l : List Int) : itemsD (tupI l) = some (l.map .int) := rfl
/-- all of bools -/
theorem bls_self : ∀ bs : List Bool, blsOf (bs.map D.bl) = some bs
  | [] => rfl
  | b :: bs => by
    show blsOf (D.bl b :: bs.map D.bl) = _
    rw [blsOf, bls_self bs]; rfl
theorem fm_some {α β : Type} (f : α → β) : ∀ l : List α, l.filterMap (fun a => some (f a)) = l.map f
  | [] => rfl
  | a :: l => by rw [List.filterMap_cons, List.map_cons, fm_some f l]
theorem allF_map {α : Type} (f : α → Bool) (l : List α) : allF [.lst (l.map fun a => D.bl (f a))] = some (.bl (l.all f)) := by
  have : l.map (fun a => D.bl (f a)) = (l.map f).map D.bl := by rw [List.map_map]; rfl
  rw [this]
  show (blsOf ((l.map f).map D.bl)).map (fun bs => D.bl (bs.all id)) = _
  rw [bls_self]
  simp [List.all_map, Function.comp_def]
theorem anyF_map {α : Type} (f : α → Bool) (l : List α) : anyF [.lst (l.map fun a => D.bl (f a))] = some (.bl (l.any f)) := by
  have : l.map (fun a => D.bl (f a)) = (l.map f).map D.bl := by rw [List.map_map]; rfl
  rw [this]
  show (blsOf ((l.map f).map D.bl)).map (fun bs => D.bl (bs.any id)) = _
  rw [bls_self]
  simp [List.any_map, Function.comp_def]
theorem sumF_map {α : Type} (f : α → Int) (l : List α) : sumF [.lst (l.map fun a => D.int (f a))] = some (.int (l.map f).sum) := by
  have : l.map (fun a => D.int (f a)) = (l.map f).map D.int := by rw [List.map_map]; rfl
  rw [this]
  show (intsOf ((l.map f).map D.int)).map (fun ns => D.int ns.sum) = _
  rw [ints_self]; rfl
theorem lexLt_eq : ∀ a b : List Int, HT.lexLt a b = decide (a < b)
  | [], [] => by simp [HT.lexLt]
  | [], b :: bs => by simp [HT.lexLt]
  | a :: as, [] => by simp [HT.lexLt]
  | a :: as, b :: bs => by
    rw [HT.lexLt, lexLt_eq as bs]
    by_cases h : a = b
    · subst h; simp [List.cons_lt_cons_iff]
    · simp [List.cons_lt_cons_iff, h]
theorem ltD_tup (a b : List Int) : ltD (tupI a) (tupI b) = some (.bl (decide (a < b))) := by
  show (intsOf (a.map D.int)).bind (fun ns => (intsOf (b.map D.int)).map fun ms => D.bl (HT.lexLt ns ms)) = _
  rw [ints_self, ints_self, ← lexLt_eq]; rfl
theorem ltD_int (a b : Int) : ltD (.int a) (.int b) = some (.bl (decide (a < b))) := rfl
theorem eqDs_ints : ∀ a b : List Int, eqDs (a.map D.int) (b.map D.int) = decide (a = b)
  | [], [] => by simp [eqDs]
  | [], _ :: _ => by simp [eqDs]
  | _ :: _, [] => by simp [eqDs]
  | x :: a, y :: b => by
    show eqDs (.int x :: a.map .int) (.int y :: b.map .int) = _
    rw [eqDs, eqDs_ints a b, eqD]
    by_cases h : x = y <;> by_cases h' : a = b <;> simp [h, h']
theorem eqD_tupI (a b : List Int) : eqD (tupI a) (tupI b) = decide (a = b) := eqDs_ints a b
theorem eqDs_tups : ∀ a b : List (List Int), eqDs (a.map tupI) (b.map tupI) = decide (a = b)
  | [], [] => by simp [eqDs]
  | [], _ :: _ => by simp [eqDs]
  | _ :: _, [] => by simp [eqDs]
  | x :: a, y :: b => by
    show eqDs (tupI x :: a.map tupI) (tupI y :: b.map tupI) = _
    rw [eqDs, eqDs_tups a b, eqD_tupI]
    by_cases h : x = y <;> by_cases h' : a = b <;> simp [h, h']
theorem pl_tupI (n : Nat) (l : List Int) : plD (n + 1) (tupI l) = true := plDs_ints l
theorem inOp_ints (x : Int) (l : List Int) : inOp (.int x) (tupI l) = some (.bl (l.contains x)) := by
  unfold inOp tupI
  simp only []
  rw [if_pos ⟨pl_int _ _, plDs_ints l⟩, List.any_map]
  congr 2
  rw [List.contains_eq_any_beq]
  congr 1
  funext z
  show eqD (.int z) (.int x) = (x == z)
  rw [eqD]
  by_cases h : z = x
  · simp [h]
  · have h' : ¬ x = z := fun e => h e.symm
    rw [beq_false_of_ne h, beq_false_of_ne h']
theorem notInOp_ints (x : Int) (l : List Int) : notInOp (.int x) (tupI l) = some (.bl (!l.contains x)) := by
  have h := inOp_ints x l
  unfold inOp tupI at h
  unfold notInOp tupI
  simp only [] at h ⊢
  rw [if_pos ⟨pl_int _ _, plDs_ints l⟩] at h ⊢
  injection h with h
  injection h with h
  rw [h]
theorem inOp_tups (x : List Int) (l : List (List Int)) : inOp (tupI x) (.tup (l.map tupI)) = some (.bl (l.contains x)) := by
  unfold inOp
  simp only []
  rw [if_pos ⟨pl_tupI _ _, plDs_tups l⟩, List.any_map]
  congr 2
  rw [List.contains_eq_any_beq]
  congr 1
  funext z
  show eqD (tupI z) (tupI x) = (x == z)
  rw [eqD_tupI]
  by_cases h : z = x
  · simp [h]
  · have h' : ¬ x = z := fun e => h e.symm
    simp [h, h']
theorem inOp_tupsL (x : List Int) (l : List (List Int)) : inOp (tupI x) (.lst (l.map tupI)) = some (.bl (l.contains x)) := by
  have h := inOp_tups x l
  unfold inOp at h ⊢
  exact h
theorem atI_nat' {α : Type} {xs : List α} {i : Int} (h0 : 0 ≤ i) (h1 : i < xs.length) : L2.atI xs i = xs[i.toNat]? := by
  unfold L2.atI L2.ixN
  rw [if_pos h0, if_pos h1]; rfl
end FX
namespace FX
section
variable {κ : Type} [DecidableEq κ]
theorem put_mem (kvs : List (κ × D)) (k : κ) (d : D) (z : κ) : z ∈ (asPut kvs k d).map (·.1) ↔ z ∈ kvs.map (·.1) ∨ z = k := by
  rw [asPut_keys]
  by_cases h : (asGet kvs k).isSome = true
  · rw [if_pos h]
    rw [asGet_isSome] at h
    exact ⟨.inl, fun q => q.elim id fun q => q ▸ h⟩
  · rw [if_neg h, List.mem_append, List.mem_singleton]
theorem put_nodup {kvs : List (κ × D)} {k : κ} {d : D} (h : (kvs.map (·.1)).Nodup) : ((asPut kvs k d).map (·.1)).Nodup := by
  rw [asPut_keys]
  by_cases q : (asGet kvs k).isSome = true
  · rw [if_pos q]; exact h
  · rw [if_neg q, List.nodup_append]
    refine ⟨h, by simp, fun a ha b hb e => ?_⟩
    rw [List.mem_singleton] at hb
    subst hb; subst e
    exact q ((asGet_isSome _ _).mpr ha)
end
end FX
def FX.intsOfT : FX.D → Option (List Int)
  | .tup ds => FX.intsOf ds
  | _ => none
namespace MA
open FX
theorem keys_small {n : Nat} {ks : List Int} (hn : ks.Nodup) (h : ∀ z ∈ ks, 0 ≤ z ∧ z < n) : ks.length ≤ n := by
  have : LotOk n (ks.mergeSort leI) := ⟨asc_of_sorted (sortI_sorted ks) ((List.mergeSort_perm _ _).nodup_iff.mpr hn), fun z hz => h z (List.mem_mergeSort.mp hz)⟩
  have := len_lot this
  rwa [List.length_mergeSort] at this
def isFromD (d : D) (lo hi : Int) : Bool := match d with
  | .int i => decide (lo ≤ i) && decide (i ≤ hi)
  | _ => false
def incrD : List D → Bool
  | .int a :: .int b :: r => decide (a < b) && incrD (.int b :: r)
  | _ => true
def goodLotD (n : Nat) (d : D) : Bool := match d with
  | .tup es => es.all (fun e => isFromD e 0 ((n : Int) - 1)) && incrD es
  | _ => false
def fIsFrom : F0 := fun ds k _ => ∃ d lo hi, ds = [d, .int lo, .int hi] ∧ (tyD d).isSome = true ∧ k (.bl (isFromD d lo hi))
def fIsPassage : F0 := fun ds k _ => ∃ (n : Nat) (p : Int × Int), ds = [.int n, prE p] ∧ (0 ≤ p.1 ∧ p.1 < p.2 ∧ p.2 < n) ∧ k (.bl true)
def fIsWarren : F0 := fun ds k _ => ∃ w, ds = [wD w] ∧ WOk w ∧ k (.bl true)
def fGoodLot : F0 := fun ds k _ => ∃ w d, ds = [wD w, d] ∧ plD 40 d = true ∧ (match d with | .tup es => es.length ≤ 1000 | _ => True) ∧ k (.bl (goodLotD w.n d))
def fLookWarren : F0 := fun ds k _ => ∃ w, ds = [wD w] ∧ WOk w ∧ k .non
def fLookLookers : F0 := fun ds k _ => ∃ m : Int, ds = [.int m] ∧ (1 ≤ m ∧ m ≤ 4) ∧ k .non
def fLookLot : F0 := fun ds k _ => ∃ w l, ds = [wD w, tupI l] ∧ LotOk w.n l ∧ WOk w ∧ k .non
def fNextTo : F0 := fun ds k _ => ∃ w h, ds = [wD w, .int h] ∧ WOk w ∧ k (.lst ((near w h).map .int))
def fLater : F0 := fun ds k _ => ∃ w S L, ds = [wD w, tupI S, tupI L] ∧ WOk w ∧ LotOk w.n S ∧ k (tupI (later w S L))
def fLookAll : F0 := fun ds k _ => ∃ w m l, ds = [wD w, .int m, tupI l] ∧ WOk w ∧ (1 ≤ m ∧ m ≤ 4) ∧ LotOk w.n l ∧ k .non
def lotsOf (n : Nat) (m : Int) (es : List D) : Bool := es.all fun e => goodLotD n e && (match e with | .tup ds => decide ((ds.length : Int) ≤ m) | _ => false)
def isPlanD (n : Nat) (m : Int) (d : D) : Bool := match d with
  | .lst es => decide (es.length ≤ 1023) && lotsOf n m es
  | _ => false
/-- a thing as it is handed to is_plan here -/
def PlanIn (d : D) : Prop := plD 41 d = true ∧ (match d with | .lst es => es.length ≤ 100000 ∧ ∀ e ∈ es, (match e with | .tup ds => ds.length ≤ 1000 | _ => True) | _ => True)
def fIsPlan : F0 := fun ds k _ => ∃ w m d, ds = [wD w, .int m, d] ∧ PlanIn d ∧ k (.bl (isPlanD w.n m d))
def surelyD (w : Wn) (m : Int) (l : List Int) (d : D) : Bool := isPlanD w.n m d && (match d with
  | .lst es => (match tupsOf es with | some ls => decide (ls.foldl (later w) l = []) | none => false)
  | _ => false)
def fSurely : F0 := fun ds k _ => ∃ w m l d, ds = [wD w, .int m, tupI l, d] ∧ WOk w ∧ (1 ≤ m ∧ m ≤ 4) ∧ LotOk w.n l ∧ PlanIn d ∧ k (.bl (surelyD w m l d))
end MA
namespace MA
open FX
/-! the laws' bags -/
def BagOk (x y : Int) : Prop := 0 ≤ x ∧ 0 ≤ y ∧ y < 2147483647
def bagD (x y : Int) : D := .lst [.int x, .int y]
def fBag : F0 := fun ds k _ => ∃ (ns : List Int) (j : Nat), ds = [.scr ns, .int j] ∧ j < 1000 ∧ ∀ x y, BagOk x y → k (bagD x y)
def fTake : F1 := fun c ds k _ => ∃ x y n, c = bagD x y ∧ BagOk x y ∧ ds = [.int n] ∧ (1 ≤ n ∧ n < 1000000) ∧ ∀ r x' y', 0 ≤ r → r < n → BagOk x' y' → k (.int r) (bagD x' y')
def fOf : F1 := fun c ds k _ => ∃ x y xs, c = bagD x y ∧ BagOk x y ∧ (ds = [.lst xs] ∨ ds = [.tup xs]) ∧ xs ≠ [] ∧ xs.length < 1000000 ∧ ∀ d x' y', d ∈ xs → BagOk x' y' → k d (bagD x' y')
def fLawWarren : F1 := fun c ds k _ => ∃ x y most, c = bagD x y ∧ BagOk x y ∧ ds = [.int most] ∧ (2 ≤ most ∧ most ≤ 10) ∧ ∀ w x' y', WOk w → (w.n : Int) ≤ most → BagOk x' y' → k (wD w) (bagD x' y')
def fLawNear : F0 := fun ds k _ => ∃ w h, ds = [wD w, .int h] ∧ WOk w ∧ k (.lst ((near w h).map .int))
def fLawLater : F0 := fun ds k _ => ∃ w S L, ds = [wD w, tupI S, tupI L] ∧ WOk w ∧ LotOk w.n S ∧ k (tupI (later w S L))
/-- all lots of at most m holes, as the laws build them, sorted -/
def grow (m : Int) (found : List (List Int)) (h : Int) : List (List Int) := found ++ (found.filter fun l => decide ((l.length : Int) < m)).map fun l => l ++ [h]
def lotsRaw (n : Nat) (m : Int) : List (List Int) := (upto n).foldl (grow m) [[]]
def lots (n : Nat) (m : Int) : List (List Int) := (lotsRaw n m).mergeSort leR
def fLawLots : F0 := fun ds k _ => ∃ (n : Nat) (m : Int), ds = [.int n, .int m] ∧ n ≤ 10 ∧ k (.lst ((lots n m).map tupI))
end MA

set_option Elab.async false
set_option linter.all false
set_option maxRecDepth 100000
/-! MathW: lots, walks that go by -/
namespace MA
open FX
/-! ### all lots -/
theorem grow_mem {m : Int} {f : List (List Int)} {h : Int} {l : List Int} : l ∈ grow m f h ↔ l ∈ f ∨ ∃ l0 ∈ f, (l0.length : Int) < m ∧ l = l0 ++ [h] := by
  unfold grow
  rw [List.mem_append, List.mem_map]
  constructor
  · rintro (q | ⟨l0, hl, rfl⟩)
    · exact .inl q
    · obtain ⟨h1, h2⟩ := List.mem_filter.mp hl
      exact .inr ⟨l0, h1, of_decide_eq_true h2, rfl⟩
  · rintro (q | ⟨l0, h1, h2, rfl⟩)
    · exact .inl q
    · exact .inr ⟨l0, List.mem_filter.mpr ⟨h1, decide_eq_true h2⟩, rfl⟩
theorem asc_snoc {l : List Int} {h : Int} : Asc (l ++ [h]) ↔ Asc l ∧ ∀ z ∈ l, z < h := by
  unfold Asc
  rw [List.pairwise_append]
  constructor
  · rintro ⟨h1, _, h3⟩
    exact ⟨h1, fun z hz => h3 z hz h (List.mem_singleton.mpr rfl)⟩
  · rintro ⟨h1, h2⟩
    refine ⟨h1, List.pairwise_singleton _ _, fun z hz y hy => ?_⟩
    rw [List.mem_singleton.mp hy]
    exact h2 z hz
/-- what the laws' lots hold, behind holes 0 .. i-1 -/
theorem raw_mem (m : Int) : ∀ (i : Nat) (l : List Int), l ∈ (upto i).foldl (grow m) [[]] ↔ LotOk i l ∧ ((l.length : Int) ≤ m ∨ l = [])
  | 0, l => by
    show l ∈ [[]] ↔ _
    rw [List.mem_singleton]
    constructor
    · rintro rfl
      exact ⟨⟨List.Pairwise.nil, fun z hz => nomatch hz⟩, .inr rfl⟩
    · rintro ⟨h, _⟩
      cases l with
      | nil => rfl
      | cons a r => have := h.2 a (List.mem_cons_self ..); omega
  | i + 1, l => by
    have e : upto (i + 1) = upto i ++ [(i : Int)] := by
      unfold upto; rw [List.range_succ, List.map_append]; rfl
    rw [e, List.foldl_append]
    show l ∈ grow m _ _ ↔ _
    rw [grow_mem, raw_mem m i]
    constructor
    · rintro (⟨h1, h2⟩ | ⟨l0, hl0, h2, rfl⟩)
      · exact ⟨⟨h1.1, fun z hz => by have := h1.2 z hz; omega⟩, h2⟩
      · rw [raw_mem m i] at hl0
        obtain ⟨h1, _⟩ := hl0
        refine ⟨⟨asc_snoc.mpr ⟨h1.1, fun z hz => (h1.2 z hz).2⟩, fun z hz => ?_⟩, .inl ?_⟩
        · rcases List.mem_append.mp hz with hz | hz
          · have := h1.2 z hz; omega
          · rw [List.mem_singleton.mp hz]; omega
        · rw [List.length_append, List.length_singleton]; omega
    · rintro ⟨h1, h2⟩
      by_cases hi : (i : Int) ∈ l
      · right
        obtain ⟨l0, x, rfl⟩ : ∃ l0 x, l = l0 ++ [x] := by
          cases hl : l.reverse with
          | nil => rw [List.reverse_eq_nil_iff] at hl; subst hl; cases hi
          | cons x r => exact ⟨r.reverse, x, by rw [← List.reverse_reverse l, hl, List.reverse_cons]⟩
        have hs := asc_snoc.mp h1.1
        have hx : x = (i : Int) := by
          rcases List.mem_append.mp hi with q | q
          · have a1 := hs.2 _ q
            have a2 := (h1.2 x (List.mem_append_right _ (List.mem_singleton.mpr rfl))).2
            omega
          · exact (List.mem_singleton.mp q).symm
        subst hx
        refine ⟨l0, (raw_mem m i l0).mpr ⟨⟨hs.1, fun z hz => ⟨(h1.2 z (List.mem_append_left _ hz)).1, hs.2 z hz⟩⟩, ?_⟩, ?_, rfl⟩
        · rcases h2 with h2 | h2
          · rw [List.length_append, List.length_singleton] at h2; left; omega
          · simp at h2
        · rcases h2 with h2 | h2
          · rw [List.length_append, List.length_singleton] at h2; omega
          · simp at h2
      · left
        refine ⟨⟨h1.1, fun z hz => ?_⟩, h2⟩
        have := h1.2 z hz
        have : z ≠ (i : Int) := fun e => hi (e ▸ hz)
        omega
theorem raw_len (m : Int) : ∀ i : Nat, ((upto i).foldl (grow m) [[]]).length ≤ 2 ^ i
  | 0 => Nat.le_refl _
  | i + 1 => by
    have e : upto (i + 1) = upto i ++ [(i : Int)] := by
      unfold upto; rw [List.range_succ, List.map_append]; rfl
    rw [e, List.foldl_append]
    show (grow m _ _).length ≤ _
    have h1 := raw_len m i
    generalize (upto i).foldl (grow m) [[]] = f at h1
    unfold grow
    rw [List.length_append, List.length_map]
    have h2 := List.length_filter_le (fun l => decide ((l.length : Int) < m)) f
    rw [Nat.pow_succ]
    omega
theorem lots_mem {n : Nat} {m : Int} {l : List Int} : l ∈ lots n m ↔ LotOk n l ∧ ((l.length : Int) ≤ m ∨ l = []) := by
  unfold lots lotsRaw
  rw [List.mem_mergeSort, raw_mem]
theorem lots_len {n : Nat} (hn : n ≤ 10) (m : Int) : (lots n m).length ≤ 1024 := by
  unfold lots lotsRaw
  rw [List.length_mergeSort]
  refine Nat.le_trans (raw_len m n) ?_
  have : 2 ^ n ≤ 2 ^ 10 := Nat.pow_le_pow_right (by decide) hn
  simpa using this
theorem lots_ne (n : Nat) (m : Int) : lots n m ≠ [] := fun e => by
  have : ([] : List Int) ∈ lots n m := lots_mem.mpr ⟨⟨List.Pairwise.nil, fun z hz => nomatch hz⟩, .inr rfl⟩
  rw [e] at this
  cases this
theorem full_ok (n : Nat) : LotOk n (upto n) := ⟨asc_upto n, fun z hz => mem_upto.mp hz⟩

/-! ### walks -/
def cnt (w : Wn) : List (List Int) → Int → Int
  | [], _ => 1
  | L :: rest, h => if L.contains h = true then 0 else if rest = [] then 1 else ((near w h).map (cnt w rest)).sum
def allW (w : Wn) : List Int → List (List Int) → List (List Int)
  | _, [] => [[]]
  | S, L :: rest => ((S.filter fun h => !L.contains h).map fun h => (allW w (near w h) rest).map (h :: ·)).flatten
def howMany (w : Wn) (S : List Int) (plan : List (List Int)) : Int := if plan = [] then (if S = [] then 0 else 1) else (S.map (cnt w plan)).sum
def walkGo (w : Wn) : List Int → List (List Int) → Option (List Int)
  | _, [] => some []
  | S, L :: rest => match S.filter fun h => decide (0 < cnt w (L :: rest) h) with
    | [] => none
    | g :: _ => (walkGo w (near w g) rest).map (g :: ·)
def walkM (w : Wn) (S : List Int) (plan : List (List Int)) : Option (List Int) := (walkGo w S plan).bind fun l => if S = [] then none else some l
theorem cnt_nonneg (w : Wn) : ∀ (P : List (List Int)) (h : Int), 0 ≤ cnt w P h
  | [], _ => by rw [cnt]; decide
  | L :: rest, h => by
    rw [cnt]
    split
    · decide
    · split
      · decide
      · have : ∀ l : List Int, 0 ≤ (l.map (cnt w rest)).sum := fun l => by
          induction l with
          | nil => exact Int.le_refl _
          | cons a l ih => rw [List.map_cons, List.sum_cons]; have := cnt_nonneg w rest a; omega
        exact this _
theorem len_flat (w : Wn) (f : Int → List (List Int)) : ∀ l : List Int, ((l.map f).flatten.length : Int) = (l.map fun h => ((f h).length : Int)).sum
  | [] => rfl
  | a :: l => by rw [List.map_cons, List.flatten_cons, List.length_append, List.map_cons, List.sum_cons, ← len_flat w f l]; omega
theorem sum_filter (p : Int → Bool) (f g : Int → Int) (h1 : ∀ a, p a = true → f a = g a) (h2 : ∀ a, p a = false → g a = 0) : ∀ l : List Int, ((l.filter p).map f).sum = (l.map g).sum
  | [] => rfl
  | a :: l => by
    rw [List.filter_cons, List.map_cons, List.sum_cons, ← sum_filter p f g h1 h2 l]
    cases hp : p a with
    | true => simp only [if_true]; rw [List.map_cons, List.sum_cons, h1 a hp]
    | false => simp only [Bool.false_eq_true, if_false]; rw [h2 a hp]; omega
theorem len_allW (w : Wn) : ∀ (P : List (List Int)) (S : List Int), P ≠ [] → ((allW w S P).length : Int) = (S.map (cnt w P)).sum
  | [], _, h => absurd rfl h
  | L :: rest, S, _ => by
    rw [allW, len_flat w]
    refine sum_filter _ _ _ (fun h hp => ?_) (fun h hp => ?_) S
    · rw [Bool.not_eq_true'] at hp
      rw [List.length_map, cnt, hp]
      by_cases hr : rest = []
      · subst hr; rfl
      · rw [if_neg (by decide), if_neg hr, len_allW w rest _ hr]
    · rw [cnt, if_pos (by simpa using hp)]
theorem howMany_len (w : Wn) {S : List Int} {P : List (List Int)} (hP : P ≠ []) : howMany w S P = ((allW w S P).length : Int) := by
  unfold howMany
  rw [if_neg hP, len_allW w P S hP]
theorem cnt_pos (w : Wn) {L : List Int} {rest : List (List Int)} {h : Int} : 0 < cnt w (L :: rest) h ↔ L.contains h = false ∧ allW w (near w h) rest ≠ [] := by
  rw [cnt]
  cases hc : L.contains h with
  | true => simp
  | false =>
    rw [if_neg (by decide)]
    by_cases hr : rest = []
    · subst hr; rw [if_pos rfl, allW]; simp
    · rw [if_neg hr, ← len_allW w rest _ hr]
      constructor
      · intro h1
        refine ⟨rfl, fun e => ?_⟩
        rw [e] at h1
        exact absurd h1 (by decide)
      · rintro ⟨_, h1⟩
        have := List.length_pos_iff.mpr h1
        omega
theorem walkGo_head (w : Wn) : ∀ (P : List (List Int)) (S : List Int), walkGo w S P = (allW w S P).head?
  | [], _ => rfl
  | L :: rest, S => by
    rw [walkGo, allW]
    have e : (S.filter fun h => decide (0 < cnt w (L :: rest) h)) = (S.filter fun h => !L.contains h).filter fun h => !(allW w (near w h) rest).isEmpty := by
      rw [List.filter_filter]
      refine List.filter_congr fun h _ => ?_
      rw [Bool.eq_iff_iff, decide_eq_true_iff, cnt_pos]
      simp [List.isEmpty_iff, and_comm]
    rw [e]
    generalize (S.filter fun h => !L.contains h) = T
    induction T with
    | nil => rfl
    | cons a T ih =>
      rw [List.filter_cons, List.map_cons, List.flatten_cons]
      cases hA : allW w (near w a) rest with
      | nil =>
        simp only [List.isEmpty_nil, Bool.not_true, Bool.false_eq_true, if_false, List.map_nil, List.nil_append]
        exact ih
      | cons z zs =>
        simp only [List.isEmpty_cons, Bool.not_false, if_true, List.map_cons, List.cons_append, List.head?_cons]
        rw [walkGo_head w rest, hA]; rfl
theorem allW_nil_S (w : Wn) {P : List (List Int)} (hP : P ≠ []) : allW w [] P = [] := by
  cases P with
  | nil => exact absurd rfl hP
  | cons L r => rfl
theorem walkM_head (w : Wn) {S : List Int} {P : List (List Int)} (hP : P ≠ []) : walkM w S P = (allW w S P).head? := by
  unfold walkM
  rw [walkGo_head]
  by_cases hS : S = []
  · subst hS
    rw [allW_nil_S w hP]; rfl
  · simp only [hS, if_false]
    cases (allW w S P).head? <;> rfl
/-- a walk steps from hole to hole and is not met -/
def WalkOk (w : Wn) : List Int → List (List Int) → List Int → Prop
  | _, [], l => l = []
  | S, L :: rest, l => ∃ h r, l = h :: r ∧ h ∈ S ∧ h ∉ L ∧ WalkOk w (near w h) rest r
theorem allW_ok (w : Wn) : ∀ (P : List (List Int)) (S : List Int) (l : List Int), l ∈ allW w S P → WalkOk w S P l
  | [], _, l, h => by rw [allW] at h; exact List.mem_singleton.mp h
  | L :: rest, S, l, h => by
    rw [allW, List.mem_flatten] at h
    obtain ⟨m, hm, hl⟩ := h
    obtain ⟨g, hg, rfl⟩ := List.mem_map.mp hm
    obtain ⟨r, hr, rfl⟩ := List.mem_map.mp hl
    obtain ⟨h1, h2⟩ := List.mem_filter.mp hg
    exact ⟨g, r, rfl, h1, by simpa using h2, allW_ok w rest _ r hr⟩
theorem WalkOk.len {w : Wn} : ∀ {P : List (List Int)} {S l : List Int}, WalkOk w S P l → l.length = P.length
  | [], _, _, h => by rw [show _ = [] from h]; rfl
  | L :: rest, S, _, ⟨h, r, e, _, _, q⟩ => by rw [e, List.length_cons, q.len, List.length_cons]
theorem WalkOk.at {w : Wn} : ∀ {P : List (List Int)} {S l : List Int} {i : Nat} {a : Int} {L : List Int}, WalkOk w S P l → l[i]? = some a → P[i]? = some L → a ∉ L ∧ (i = 0 → a ∈ S)
  | [], _, _, _, _, _, _, _, h2 => by simp at h2
  | M :: rest, S, _, 0, a, L, ⟨h, r, e, hS, hL, q⟩, h1, h2 => by
    subst e
    simp at h1 h2
    subst h1; subst h2
    exact ⟨hL, fun _ => hS⟩
  | M :: rest, S, _, i + 1, a, L, ⟨h, r, e, hS, hL, q⟩, h1, h2 => by
    subst e
    have := q.at (i := i) (by simpa using h1) (by simpa using h2)
    exact ⟨this.1, fun z => by omega⟩
theorem WalkOk.step {w : Wn} : ∀ {P : List (List Int)} {S l : List Int} {i : Nat} {a b : Int}, WalkOk w S P l → l[i]? = some a → l[i + 1]? = some b → b ∈ near w a
  | [], _, _, _, _, _, h, h1, _ => by rw [show _ = [] from h] at h1; simp at h1
  | M :: rest, S, _, 0, a, b, ⟨h, r, e, hS, hL, q⟩, h1, h2 => by
    subst e
    simp at h1 h2
    subst h1
    cases rest with
    | nil => rw [show r = [] from q] at h2; simp at h2
    | cons L2 rest =>
      obtain ⟨g, r2, rfl, hg, _⟩ := q
      simp at h2
      subst h2; exact hg
  | M :: rest, S, _, i + 1, a, b, ⟨h, r, e, hS, hL, q⟩, h1, h2 => by
    subst e
    exact q.step (i := i) (by simpa using h1) (by simpa using h2)
/-! the walks as the law grows them -/
def nextS (w : Wn) (S : List Int) (row : List Int) : List Int := match row.getLast? with
  | some h => near w h
  | none => S
def growW (w : Wn) (S : List Int) (rows : List (List Int)) (L : List Int) : List (List Int) := (rows.map fun row => ((nextS w S row).filter fun h => !L.contains h).map fun h => row ++ [h]).flatten
theorem nextS_cons (w : Wn) (S : List Int) (h : Int) (row : List Int) : nextS w S (h :: row) = nextS w (near w h) row := by
  unfold nextS
  cases row with
  | nil => rfl
  | cons a r => rw [List.getLast?_cons_cons]; cases hl : (a :: r).getLast? with
    | none => simp at hl
    | some x => rfl
theorem allW_snoc (w : Wn) : ∀ (P : List (List Int)) (S : List Int) (L : List Int), allW w S (P ++ [L]) = growW w S (allW w S P) L
  | [], S, L => by
    show ((S.filter fun h => !L.contains h).map fun h => (allW w (near w h) []).map (h :: ·)).flatten = _
    unfold growW
    rw [allW]
    simp only [List.map_cons, List.map_nil, List.flatten_cons, List.flatten_nil, List.append_nil]
    show _ = ((S.filter fun h => !L.contains h).map fun h => [] ++ [h])
    generalize (S.filter fun h => !L.contains h) = T
    induction T with
    | nil => rfl
    | cons a T ih => rw [List.map_cons, List.flatten_cons, ih]; rfl
  | M :: P, S, L => by
    rw [List.cons_append, allW, allW]
    unfold growW
    generalize (S.filter fun h => !M.contains h) = T
    induction T with
    | nil => rfl
    | cons a T ih =>
      rw [List.map_cons, List.flatten_cons, ih, List.map_cons, List.flatten_cons, List.map_append, List.flatten_append]
      congr 1
      rw [allW_snoc w P]
      unfold growW
      rw [List.map_flatten, List.map_map, List.map_map]
      congr 1
      refine List.map_congr_left fun row _ => ?_
      show List.map (a :: ·) (List.map _ _) = _
      rw [List.map_map]
      show _ = List.map (fun h => (a :: row) ++ [h]) (List.filter _ (nextS w S (a :: row)))
      rw [nextS_cons]
      rfl
/-! none just where it is surely met -/
theorem fold_union (w : Wn) : ∀ (P : List (List Int)) (S : List Int) (z : Int), z ∈ P.foldl (later w) S ↔ ∃ h ∈ S, z ∈ P.foldl (later w) [h]
  | [], S, z => by simp
  | L :: P, S, z => by
    rw [List.foldl_cons, fold_union w P]
    constructor
    · rintro ⟨g, hg, hz⟩
      obtain ⟨h, hS, hL, hgn⟩ := mem_later.mp hg
      refine ⟨h, hS, ?_⟩
      rw [List.foldl_cons, fold_union w P]
      exact ⟨g, mem_later.mpr ⟨h, List.mem_singleton.mpr rfl, hL, hgn⟩, hz⟩
    · rintro ⟨h, hS, hz⟩
      rw [List.foldl_cons, fold_union w P] at hz
      obtain ⟨g, hg, hz⟩ := hz
      obtain ⟨h', hS', hL, hgn⟩ := mem_later.mp hg
      rw [List.mem_singleton.mp hS'] at hL hgn
      exact ⟨g, mem_later.mpr ⟨h, hS, hL, hgn⟩, hz⟩
theorem near_ne {w : Wn} (ok : WOk w) {h : Int} (h0 : 0 ≤ h) (h1 : h < w.n) : near w h ≠ [] := fun e => by
  obtain ⟨p, hp, hc⟩ := ok.cov h h0 h1
  have r := ok.rng p hp
  have : ∀ o : Int, 0 ≤ o → o < (w.n : Int) → joins w o h = true → False := fun o a b c => by
    have : o ∈ near w h := mem_near.mpr ⟨⟨a, b⟩, c⟩
    rw [e] at this; cases this
  rcases hc with rfl | rfl
  · exact this p.2 (by omega) (by omega) ((joins_iff ok).mpr (.inr hp))
  · exact this p.1 (by omega) (by omega) ((joins_iff ok).mpr (.inl hp))
theorem met_iff {w : Wn} (ok : WOk w) : ∀ (P : List (List Int)) (S : List Int), P ≠ [] → (∀ z ∈ S, 0 ≤ z ∧ z < w.n) → (P.foldl (later w) S = [] ↔ allW w S P = [])
  | [], _, h, _ => absurd rfl h
  | L :: rest, S, _, hS => by
    have e1 : allW w S (L :: rest) = [] ↔ ∀ h ∈ S, h ∉ L → allW w (near w h) rest = [] := by
      rw [allW, List.flatten_eq_nil_iff]
      constructor
      · intro q h hh hL
        have := q _ (List.mem_map.mpr ⟨h, List.mem_filter.mpr ⟨hh, by simpa using hL⟩, rfl⟩)
        exact List.map_eq_nil_iff.mp this
      · intro q l hl
        obtain ⟨h, hh, rfl⟩ := List.mem_map.mp hl
        obtain ⟨h1, h2⟩ := List.mem_filter.mp hh
        rw [q h h1 (by simpa using h2)]; rfl
    rw [e1, List.foldl_cons]
    by_cases hr : rest = []
    · subst hr
      show later w S L = [] ↔ _
      constructor
      · intro q h hh hL
        exfalso
        have hn := near_ne ok (hS h hh).1 (hS h hh).2
        obtain ⟨o, ho⟩ := List.exists_mem_of_ne_nil _ hn
        have : o ∈ later w S L := mem_later.mpr ⟨h, hh, hL, ho⟩
        rw [q] at this; cases this
      · intro q
        refine List.eq_nil_iff_forall_not_mem.mpr fun o ho => ?_
        obtain ⟨h, hh, hL, _⟩ := mem_later.mp ho
        have := q h hh hL
        rw [allW] at this
        cases this
    · constructor
      · intro q h hh hL
        refine (met_iff ok rest (near w h) hr fun z hz => near_ok hz).mp ?_
        refine List.eq_nil_iff_forall_not_mem.mpr fun o ho => ?_
        obtain ⟨g, hg, hz⟩ := (fold_union w rest _ o).mp ho
        have : o ∈ rest.foldl (later w) (later w S L) := (fold_union w rest _ o).mpr ⟨g, mem_later.mpr ⟨h, hh, hL, hg⟩, hz⟩
        rw [q] at this; cases this
      · intro q
        refine List.eq_nil_iff_forall_not_mem.mpr fun o ho => ?_
        obtain ⟨g, hg, hz⟩ := (fold_union w rest _ o).mp ho
        obtain ⟨h, hh, hL, hgn⟩ := mem_later.mp hg
        have := (met_iff ok rest (near w h) hr fun z hz => near_ok hz).mpr (q h hh hL)
        have : o ∈ rest.foldl (later w) (near w h) := (fold_union w rest _ o).mpr ⟨g, hgn, hz⟩
        simp_all
end MA

set_option Elab.async false
set_option linter.all false
set_option maxRecDepth 100000
/-! MathB: fewest days: all looks, best lots, breadth first -/
namespace MA
open FX
/-! ### lots of some holes -/
def lotsOfL (S : List Int) (m : Int) : List (List Int) := (S.foldl (grow m) [[]]).mergeSort leR
theorem rawL_mem (m : Int) (S : List Int) (hS : Asc S) (l : List Int) : l ∈ S.foldl (grow m) [[]] ↔ (Asc l ∧ ∀ z ∈ l, z ∈ S) ∧ ((l.length : Int) ≤ m ∨ l = []) := by
  have key : ∀ T : List Int, Asc T.reverse → ∀ l, l ∈ T.reverse.foldl (grow m) [[]] ↔ (Asc l ∧ ∀ z ∈ l, z ∈ T.reverse) ∧ ((l.length : Int) ≤ m ∨ l = []) := by
    intro T
    induction T with
    | nil =>
      intro _ l
      show l ∈ [[]] ↔ _
      rw [List.mem_singleton]
      constructor
      · rintro rfl
        exact ⟨⟨List.Pairwise.nil, fun z hz => nomatch hz⟩, .inr rfl⟩
      · rintro ⟨h, _⟩
        cases l with
        | nil => rfl
        | cons a r => exact absurd (h.2 a (List.mem_cons_self ..)) (by simp)
    | cons h T ih =>
      intro hT l
      rw [List.reverse_cons] at hT ⊢
      obtain ⟨hT1, hT2⟩ := asc_snoc.mp hT
      have ih := ih hT1
      rw [List.foldl_append]
      show l ∈ grow m _ _ ↔ _
      rw [grow_mem, ih]
      constructor
      · rintro (⟨h1, h2⟩ | ⟨l0, hl0, h2, rfl⟩)
        · exact ⟨⟨h1.1, fun z hz => List.mem_append_left _ (h1.2 z hz)⟩, h2⟩
        · rw [ih] at hl0
          obtain ⟨h1, _⟩ := hl0
          refine ⟨⟨asc_snoc.mpr ⟨h1.1, fun z hz => hT2 z (h1.2 z hz)⟩, fun z hz => ?_⟩, .inl ?_⟩
          · rcases List.mem_append.mp hz with hz | hz
            · exact List.mem_append_left _ (h1.2 z hz)
            · exact List.mem_append_right _ hz
          · rw [List.length_append, List.length_singleton]; omega
      · rintro ⟨h1, h2⟩
        by_cases hi : h ∈ l
        · right
          obtain ⟨l0, x, rfl⟩ : ∃ l0 x, l = l0 ++ [x] := by
            cases hl : l.reverse with
            | nil => rw [List.reverse_eq_nil_iff] at hl; subst hl; cases hi
            | cons x r => exact ⟨r.reverse, x, by rw [← List.reverse_reverse l, hl, List.reverse_cons]⟩
          have hs := asc_snoc.mp h1.1
          have hx : x = h := by
            rcases List.mem_append.mp hi with q | q
            · have a1 := hs.2 _ q
              rcases List.mem_append.mp (h1.2 x (List.mem_append_right _ (List.mem_singleton.mpr rfl))) with r | r
              · have := hT2 x r; omega
              · exact List.mem_singleton.mp r
            · exact (List.mem_singleton.mp q).symm
          subst hx
          refine ⟨l0, (ih l0).mpr ⟨⟨hs.1, fun z hz => ?_⟩, ?_⟩, ?_, rfl⟩
          · rcases List.mem_append.mp (h1.2 z (List.mem_append_left _ hz)) with r | r
            · exact r
            · have := hs.2 z hz; rw [List.mem_singleton.mp r] at this; omega
          · rcases h2 with h2 | h2
            · rw [List.length_append, List.length_singleton] at h2; left; omega
            · simp at h2
          · rcases h2 with h2 | h2
            · rw [List.length_append, List.length_singleton] at h2; omega
            · simp at h2
        · left
          refine ⟨⟨h1.1, fun z hz => ?_⟩, h2⟩
          rcases List.mem_append.mp (h1.2 z hz) with r | r
          · exact r
          · exact absurd (List.mem_singleton.mp r ▸ hz) hi
  have := key S.reverse (by rw [List.reverse_reverse]; exact hS) l
  rwa [List.reverse_reverse] at this
theorem lotsOfL_mem {S : List Int} (hS : Asc S) {m : Int} {l : List Int} : l ∈ lotsOfL S m ↔ (Asc l ∧ ∀ z ∈ l, z ∈ S) ∧ ((l.length : Int) ≤ m ∨ l = []) := by
  unfold lotsOfL
  rw [List.mem_mergeSort, rawL_mem m S hS]
theorem grow_len (m : Int) (f : List (List Int)) (h : Int) : (grow m f h).length ≤ 2 * f.length := by
  unfold grow
  rw [List.length_append, List.length_map]
  have h2 := List.length_filter_le (fun l : List Int => decide ((l.length : Int) < m)) f
  omega
theorem foldg_len (m : Int) : ∀ (S : List Int) (f : List (List Int)), (S.foldl (grow m) f).length ≤ 2 ^ S.length * f.length
  | [], f => by simp
  | a :: S, f => by
    rw [List.foldl_cons, List.length_cons, Nat.pow_succ]
    refine Nat.le_trans (foldg_len m S _) ?_
    rw [Nat.mul_assoc]
    exact Nat.mul_le_mul_left _ (grow_len m f a)
def bestLots (S : List Int) (m : Int) : List (List Int) := if (S.length : Int) ≤ m then [S] else (lotsOfL S m).filter fun l => decide ((l.length : Int) = m)
/-- best lots are looks -/
theorem best_mem {S : List Int} (hS : Asc S) {m : Int} (hm : 0 ≤ m) {l : List Int} : l ∈ bestLots S m → (Asc l ∧ ∀ z ∈ l, z ∈ S) ∧ (l.length : Int) ≤ m := by
  unfold bestLots
  intro h
  by_cases c : (S.length : Int) ≤ m
  · rw [if_pos c, List.mem_singleton] at h
    subst h
    exact ⟨⟨hS, fun z hz => hz⟩, c⟩
  · rw [if_neg c, List.mem_filter] at h
    obtain ⟨h1, h2⟩ := h
    have h2 := of_decide_eq_true h2
    exact ⟨((lotsOfL_mem hS).mp h1).1, by omega⟩
/-- a lot may be filled up -/
theorem fill_up : ∀ {S l : List Int} (k : Nat), Asc S → Asc l → (∀ z ∈ l, z ∈ S) → l.length ≤ k → k ≤ S.length → ∃ b, Asc b ∧ (∀ z ∈ b, z ∈ S) ∧ b.length = k ∧ ∀ z ∈ l, z ∈ b := by
  intro S l k hS hl hsub h1 h2
  induction hk : k - l.length generalizing l with
  | zero => exact ⟨l, hl, hsub, by omega, fun z hz => hz⟩
  | succ j ih =>
    obtain ⟨a, ha, hna⟩ : ∃ a ∈ S, a ∉ l := by
      apply Classical.byContradiction
      intro hno
      have : ∀ z, z ∈ S ↔ z ∈ l := fun z => ⟨fun hz => Classical.byContradiction fun c => hno ⟨z, hz, c⟩, hsub z⟩
      have := asc_ext hS hl this
      rw [this] at h2
      omega
    have hmem : ∀ z, z ∈ S.filter (fun z => decide (z ∈ a :: l)) ↔ z = a ∨ z ∈ l := fun z => by
      rw [List.mem_filter, decide_eq_true_iff, List.mem_cons]
      exact ⟨fun h => h.2, fun h => ⟨h.elim (fun e => e ▸ ha) (hsub z), h⟩⟩
    have hlen : (S.filter (fun z => decide (z ∈ a :: l))).length = l.length + 1 := by
      have p : (S.filter (fun z => decide (z ∈ a :: l))).Perm (a :: l) := by
        refine (List.perm_ext_iff_of_nodup (hS.nodup.sublist List.filter_sublist) (List.nodup_cons.mpr ⟨hna, hl.nodup⟩)).mpr fun z => ?_
        rw [hmem, List.mem_cons]
      rw [p.length_eq, List.length_cons]
    obtain ⟨b, b1, b2, b3, b4⟩ := ih (l := S.filter (fun z => decide (z ∈ a :: l))) (hS.filter _) (fun z hz => (List.mem_filter.mp hz).1) (by omega) (by omega)
    exact ⟨b, b1, b2, b3, fun z hz => b4 z ((hmem z).mpr (.inr hz))⟩
theorem best_fill {S : List Int} (hS : Asc S) {m : Int} (hm : 0 ≤ m) {L : List Int} (hL : Asc L) (hl : (L.length : Int) ≤ m) : ∃ b ∈ bestLots S m, ∀ z ∈ S, z ∈ L → z ∈ b := by
  unfold bestLots
  by_cases c : (S.length : Int) ≤ m
  · rw [if_pos c]
    exact ⟨S, List.mem_singleton.mpr rfl, fun z hz _ => hz⟩
  · rw [if_neg c]
    have hf : ∀ z, z ∈ S.filter (fun z => decide (z ∈ L)) ↔ z ∈ S ∧ z ∈ L := fun z => by rw [List.mem_filter, decide_eq_true_iff]
    have hlen : (S.filter (fun z => decide (z ∈ L))).length ≤ L.length := by
      have e : S.filter (fun z => decide (z ∈ L)) = L.filter (fun z => decide (z ∈ S)) := asc_ext (hS.filter _) (hL.filter _) fun z => by
        rw [hf, List.mem_filter, decide_eq_true_iff, and_comm]
      rw [e]
      exact List.length_filter_le ..
    obtain ⟨b, b1, b2, b3, b4⟩ := fill_up (S := S) (l := S.filter (fun z => decide (z ∈ L))) m.toNat hS (hS.filter _) (fun z hz => ((hf z).mp hz).1) (by omega) (by omega)
    refine ⟨b, List.mem_filter.mpr ⟨(lotsOfL_mem hS).mpr ⟨⟨b1, b2⟩, .inl (by omega)⟩, decide_eq_true (by omega)⟩, fun z hz hzL => b4 z ((hf z).mpr ⟨hz, hzL⟩)⟩

/-! ### days -/
def can (R : List Int → List (List Int)) : Nat → List Int → Bool
  | 0, S => decide (S = [])
  | t + 1, S => can R t S || (R S).any (can R t)
def lawR (w : Wn) (m : Int) (S : List Int) : List (List Int) := (lots w.n m).map (later w S)
def progR (w : Wn) (m : Int) (S : List Int) : List (List Int) := (bestLots S m).map (later w S)
theorem later_mono {w : Wn} {S S' L L' : List Int} (hS : ∀ z ∈ S, z ∈ S') (hL : ∀ z ∈ S, z ∈ L' → z ∈ L) : ∀ z ∈ later w S L, z ∈ later w S' L' := fun z hz => by
  obtain ⟨h, h1, h2, h3⟩ := mem_later.mp hz
  exact mem_later.mpr ⟨h, hS h h1, fun q => h2 (hL h h1 q), h3⟩
theorem can_mono (w : Wn) (m : Int) : ∀ (t : Nat) (S S' : List Int), (∀ z ∈ S, z ∈ S') → can (lawR w m) t S' = true → can (lawR w m) t S = true
  | 0, S, S', h, c => by
    rw [can, decide_eq_true_iff] at c ⊢
    subst c
    exact List.eq_nil_iff_forall_not_mem.mpr fun z hz => nomatch h z hz
  | t + 1, S, S', h, c => by
    rw [can, Bool.or_eq_true] at c ⊢
    rcases c with c | c
    · exact .inl (can_mono w m t S S' h c)
    · right
      obtain ⟨x, hx, hc⟩ := List.any_eq_true.mp c
      obtain ⟨L, hL, rfl⟩ := List.mem_map.mp hx
      exact List.any_eq_true.mpr ⟨_, List.mem_map.mpr ⟨L, hL, rfl⟩, can_mono w m t _ _ (later_mono h fun z _ q => q) hc⟩
theorem lots_ok' {n : Nat} {m : Int} {l : List Int} (h : l ∈ lots n m) (hm : 0 ≤ m) : LotOk n l ∧ (l.length : Int) ≤ m := by
  obtain ⟨h1, h2⟩ := lots_mem.mp h
  refine ⟨h1, ?_⟩
  rcases h2 with h2 | h2
  · exact h2
  · subst h2; exact hm
theorem can_eq (w : Wn) {m : Int} (hm : 0 ≤ m) : ∀ (t : Nat) (S : List Int), LotOk w.n S → can (progR w m) t S = can (lawR w m) t S
  | 0, _, _ => rfl
  | t + 1, S, hS => by
    rw [can, can, can_eq w hm t S hS]
    congr 1
    rw [Bool.eq_iff_iff, List.any_eq_true, List.any_eq_true]
    constructor
    · rintro ⟨x, hx, hc⟩
      obtain ⟨L, hL, rfl⟩ := List.mem_map.mp hx
      obtain ⟨h1, h2⟩ := best_mem hS.1 hm hL
      refine ⟨_, List.mem_map.mpr ⟨L, lots_mem.mpr ⟨⟨h1.1, fun z hz => hS.2 z (h1.2 z hz)⟩, .inl h2⟩, rfl⟩, ?_⟩
      rw [← can_eq w hm t _ (later_ok _ _ _)]
      exact hc
    · rintro ⟨x, hx, hc⟩
      obtain ⟨L, hL, rfl⟩ := List.mem_map.mp hx
      obtain ⟨h1, h2⟩ := lots_ok' hL hm
      obtain ⟨b, hb, hbL⟩ := best_fill hS.1 hm h1.1 h2
      refine ⟨_, List.mem_map.mpr ⟨b, hb, rfl⟩, ?_⟩
      rw [can_eq w hm t _ (later_ok _ _ _)]
      exact can_mono w m t _ _ (later_mono (fun z q => q) hbL) hc
end MA

set_option Elab.async false
set_option linter.all false
set_option maxRecDepth 100000
/-! SpecB: tables of days -/
namespace MA
open FX
def IsDay (R : List Int → List (List Int)) (S : List Int) (t : Nat) : Prop := can R t S = true ∧ ∀ u, u < t → can R u S = false
theorem can_succ {R : List Int → List (List Int)} {t : Nat} {S : List Int} (h : can R t S = true) : can R (t + 1) S = true := by rw [can, h, Bool.true_or]
theorem can_le {R : List Int → List (List Int)} {t u : Nat} {S : List Int} (h : can R t S = true) (l : t ≤ u) : can R u S = true := by
  induction l with
  | refl => exact h
  | step _ ih => exact can_succ ih
theorem IsDay.uniq {R : List Int → List (List Int)} {S : List Int} {t u : Nat} (h : IsDay R S t) (g : IsDay R S u) : t = u := by
  rcases Nat.lt_trichotomy t u with c | c | c
  · have := g.2 t c; rw [h.1] at this; cases this
  · exact c
  · have := h.2 u c; rw [g.1] at this; cases this
/-- the day up to t -/
def lev (R : List Int → List (List Int)) (S : List Int) : Nat → Option Nat
  | 0 => if can R 0 S = true then some 0 else none
  | t + 1 => match lev R S t with
    | some u => some u
    | none => if can R (t + 1) S = true then some (t + 1) else none
theorem lev_none {R : List Int → List (List Int)} {S : List Int} : ∀ t : Nat, lev R S t = none ↔ can R t S = false
  | 0 => by
    unfold lev
    by_cases h : can R 0 S = true
    · rw [if_pos h, h]; simp
    · rw [if_neg h]; simpa using h
  | t + 1 => by
    rw [lev]
    cases e : lev R S t with
    | some u =>
      have : can R t S = true := by
        cases c : can R t S with
        | true => rfl
        | false => rw [(lev_none t).mpr c] at e; cases e
      simp [can_succ this]
    | none =>
      by_cases h : can R (t + 1) S = true
      · rw [h]; simp
      · simp [h]
theorem lev_some {R : List Int → List (List Int)} {S : List Int} : ∀ {t u : Nat}, lev R S t = some u → IsDay R S u ∧ u ≤ t
  | 0, u, h => by
    rw [lev] at h
    by_cases c : can R 0 S = true
    · rw [if_pos c] at h
      cases h
      exact ⟨⟨c, fun u hu => absurd hu (Nat.not_lt_zero u)⟩, Nat.le_refl _⟩
    · rw [if_neg c] at h; cases h
  | t + 1, u, h => by
    rw [lev] at h
    cases e : lev R S t with
    | some v =>
      rw [e] at h; cases h
      obtain ⟨a, b⟩ := lev_some e
      exact ⟨a, by omega⟩
    | none =>
      rw [e] at h
      by_cases c : can R (t + 1) S = true
      · simp only [c, if_true] at h
        cases h
        refine ⟨⟨c, fun u hu => ?_⟩, Nat.le_refl _⟩
        have := (lev_none t).mp e
        cases q : can R u S with
        | false => rfl
        | true => rw [can_le q (by omega)] at this; cases this
      · simp only [c, if_false, Bool.false_eq_true] at h; cases h
/-- a table of days -/
def Tab (R : List Int → List (List Int)) (P : List Int → Prop) (kvs : List (List Int × D)) : Prop :=
  ∀ S, P S → (∀ d, asGet kvs S = some d → ∃ t : Nat, d = .int t ∧ IsDay R S t) ∧ (asGet kvs S = none → ∀ t, can R t S = false)
def TabT (R : List Int → List (List Int)) (P : List Int → Prop) (t : Nat) (kvs : List (List Int × D)) : Prop :=
  ∀ S, P S → asGet kvs S = (lev R S t).map fun (u : Nat) => D.int u
theorem can_fix {R : List Int → List (List Int)} {P : List Int → Prop} (hR : ∀ S, P S → ∀ T ∈ R S, P T) {t : Nat} (h : ∀ S, P S → can R (t + 1) S = true → can R t S = true) : ∀ (u : Nat) (S : List Int), P S → can R (t + u) S = true → can R t S = true
  | 0, S, p, c => c
  | u + 1, S, p, c => by
    rw [show t + (u + 1) = (t + u) + 1 by omega, can, Bool.or_eq_true] at c
    rcases c with c | c
    · exact can_fix hR h u S p c
    · obtain ⟨T, hT, c⟩ := List.any_eq_true.mp c
      have := can_fix hR h u T (hR S p T hT) c
      refine h S p ?_
      rw [can, Bool.or_eq_true]
      exact .inr (List.any_eq_true.mpr ⟨T, hT, this⟩)
theorem TabT.done {R : List Int → List (List Int)} {P : List Int → Prop} {t : Nat} {kvs : List (List Int × D)} (h : TabT R P t kvs) (hR : ∀ S, P S → ∀ T ∈ R S, P T) (hf : ∀ S, P S → can R (t + 1) S = true → can R t S = true) : Tab R P kvs := by
  intro S p
  have e := h S p
  refine ⟨fun d hd => ?_, fun hn u => ?_⟩
  · rw [e] at hd
    cases q : lev R S t with
    | none => rw [q] at hd; cases hd
    | some u =>
      rw [q] at hd
      cases hd
      exact ⟨u, rfl, (lev_some q).1⟩
  · rw [e] at hn
    cases q : lev R S t with
    | some u => rw [q] at hn; cases hn
    | none =>
      have c := (lev_none t).mp q
      cases z : can R u S with
      | false => rfl
      | true =>
        have := can_fix hR hf u S p (can_le z (by omega))
        rw [c] at this; cases this
/-! one more day -/
def putAll (d : D) (kvs : List (List Int × D)) (new : List (List Int)) : List (List Int × D) := new.foldl (fun k S => asPut k S d) kvs
theorem putAll_get (d : D) : ∀ (new : List (List Int)) (kvs : List (List Int × D)) (S : List Int), asGet (putAll d kvs new) S = if S ∈ new then some d else asGet kvs S
  | [], kvs, S => by simp [putAll]
  | a :: r, kvs, S => by
    have := putAll_get d r (asPut kvs a d) S
    show asGet (putAll d (asPut kvs a d) r) S = _
    rw [this, asGet_put]
    by_cases h : S ∈ r
    · simp [h]
    · by_cases g : S = a
      · simp [g]
      · simp [h, g]
def unf (KS : List (List Int)) (kvs : List (List Int × D)) : Nat := KS.countP fun S => (asGet kvs S).isNone
theorem countP_le {α : Type} (p q : α → Bool) : ∀ l : List α, (∀ a ∈ l, p a = true → q a = true) → l.countP p ≤ l.countP q := fun l h => List.countP_mono_left h
theorem countP_lt {α : Type} (p q : α → Bool) : ∀ l : List α, (∀ a ∈ l, p a = true → q a = true) → (∃ a ∈ l, q a = true ∧ p a = false) → l.countP p < l.countP q
  | [], _, ⟨a, h, _⟩ => nomatch h
  | b :: l, h, ⟨a, ha, hq, hp⟩ => by
    rw [List.countP_cons, List.countP_cons]
    have hl : ∀ a ∈ l, p a = true → q a = true := fun a m => h a (List.mem_cons_of_mem _ m)
    have le := countP_le p q l hl
    have hb := h b (List.mem_cons_self ..)
    rcases List.mem_cons.mp ha with e | m
    · subst e
      simp [hq, hp]; omega
    · have lt := countP_lt p q l hl ⟨a, m, hq, hp⟩
      cases e : p b with
      | false => simp; split <;> omega
      | true => rw [hb e]; simp; omega
theorem unf_put {KS : List (List Int)} {kvs : List (List Int × D)} {S : List Int} {d : D} (hS : S ∈ KS) : (asPut kvs S d).length + unf KS (asPut kvs S d) ≤ kvs.length + unf KS kvs ∧ unf KS (asPut kvs S d) ≤ unf KS kvs ∧ (asGet kvs S = none → unf KS (asPut kvs S d) < unf KS kvs) := by
  have mono : ∀ a ∈ KS, (asGet (asPut kvs S d) a).isNone = true → (asGet kvs a).isNone = true := fun a _ h => by
    rw [asGet_put] at h
    by_cases e : a = S
    · rw [if_pos e] at h; cases h
    · rwa [if_neg e] at h
  have le : unf KS (asPut kvs S d) ≤ unf KS kvs := countP_le _ _ KS mono
  have lt : asGet kvs S = none → unf KS (asPut kvs S d) < unf KS kvs := fun h => countP_lt _ _ KS mono ⟨S, hS, by rw [h]; rfl, by rw [asGet_put, if_pos rfl]; rfl⟩
  refine ⟨?_, le, lt⟩
  cases e : asGet kvs S with
  | none =>
    have := lt e
    have := asPut_length kvs S d
    omega
  | some v =>
    have : (asPut kvs S d).length = kvs.length := by
      have := congrArg List.length (asPut_keys kvs S d)
      rw [e] at this
      simpa using this
    omega
theorem unf_all {KS : List (List Int)} {d : D} : ∀ (new : List (List Int)) (kvs : List (List Int × D)), (∀ S ∈ new, S ∈ KS) → (putAll d kvs new).length + unf KS (putAll d kvs new) ≤ kvs.length + unf KS kvs ∧ unf KS (putAll d kvs new) ≤ unf KS kvs ∧ (∀ S, S ∈ new → asGet kvs S = none → unf KS (putAll d kvs new) < unf KS kvs)
  | [], kvs, h => ⟨Nat.le_refl _, Nat.le_refl _, fun S m => nomatch m⟩
  | a :: r, kvs, h => by
    obtain ⟨a1, a2, a3⟩ := unf_put (kvs := kvs) (d := d) (h a (List.mem_cons_self ..))
    obtain ⟨b1, b2, b3⟩ := unf_all (d := d) r (asPut kvs a d) fun S m => h S (List.mem_cons_of_mem _ m)
    have e : putAll d kvs (a :: r) = putAll d (asPut kvs a d) r := rfl
    rw [e]
    refine ⟨by omega, by omega, fun S m hn => ?_⟩
    by_cases c : S = a
    · subst c
      have := a3 hn
      omega
    · have m' : S ∈ r := by
        rcases List.mem_cons.mp m with q | q
        · exact absurd q c
        · exact q
      have := b3 S m' (by rw [asGet_put, if_neg c]; exact hn)
      omega
/-- the lots that come new on a day -/
def isNew (kvs : List (List Int × D)) (X : List Int → List (List Int)) (S : List Int) : Bool := (asGet kvs S).isNone && (X S).any fun T => (asGet kvs T).isSome
theorem TabT.next {R X : List Int → List (List Int)} {P : List Int → Prop} {t : Nat} {kvs : List (List Int × D)} {KS : List (List Int)} (h : TabT R P t kvs) (hK : ∀ S, S ∈ KS ↔ P S) (hR : ∀ S, P S → ∀ T ∈ R S, P T) (hX : ∀ S, P S → ∀ T, T ∈ X S ↔ T ∈ R S) :
    TabT R P (t + 1) (putAll (.int ((t + 1 : Nat) : Int)) kvs (KS.filter (isNew kvs X))) ∧ (KS.filter (isNew kvs X) = [] → Tab R P kvs) := by
  have some_iff : ∀ T, P T → ((asGet kvs T).isSome = true ↔ can R t T = true) := fun T pT => by
    rw [h T pT]
    cases q : lev R T t with
    | none => have := (lev_none t).mp q; simp [this]
    | some u =>
      have : can R t T = true := by
        cases c : can R t T with
        | true => rfl
        | false => rw [(lev_none t).mpr c] at q; cases q
      simp [this]
  have new_iff : ∀ S, P S → (S ∈ KS.filter (isNew kvs X) ↔ can R t S = false ∧ can R (t + 1) S = true) := fun S p => by
    rw [List.mem_filter, hK, isNew, Bool.and_eq_true]
    constructor
    · rintro ⟨_, hn, ha⟩
      obtain ⟨T, hT, hs⟩ := List.any_eq_true.mp ha
      have hT := (hX S p T).mp hT
      have c : can R t S = false := by
        cases c : can R t S with
        | false => rfl
        | true =>
          have := (some_iff S p).mpr c
          cases q : asGet kvs S with
          | none => rw [q] at this; cases this
          | some v => rw [q] at hn; cases hn
      refine ⟨c, ?_⟩
      rw [can, Bool.or_eq_true]
      exact .inr (List.any_eq_true.mpr ⟨T, hT, (some_iff T (hR S p T hT)).mp hs⟩)
    · rintro ⟨c, c1⟩
      refine ⟨p, ?_, ?_⟩
      · rw [h S p, (lev_none t).mpr c]; rfl
      · rw [can, c, Bool.false_or] at c1
        obtain ⟨T, hT, hc⟩ := List.any_eq_true.mp c1
        exact List.any_eq_true.mpr ⟨T, (hX S p T).mpr hT, (some_iff T (hR S p T hT)).mpr hc⟩
  constructor
  · intro S p
    rw [putAll_get, lev, h S p]
    by_cases c : S ∈ KS.filter (isNew kvs X)
    · obtain ⟨c0, c1⟩ := (new_iff S p).mp c
      rw [if_pos c, (lev_none t).mpr c0]
      simp [c1]
    · rw [if_neg c]
      cases q : lev R S t with
      | some u => rfl
      | none =>
        have c0 := (lev_none t).mp q
        have c1 : can R (t + 1) S ≠ true := fun c1 => c ((new_iff S p).mpr ⟨c0, c1⟩)
        simp [c1]
  · intro e
    refine h.done hR fun S p c1 => ?_
    cases c0 : can R t S with
    | true => rfl
    | false =>
      have := (new_iff S p).mpr ⟨c0, c1⟩
      rw [e] at this
      cases this
theorem tab0 {R : List Int → List (List Int)} {P : List Int → Prop} : TabT R P 0 [([], .int 0)] := by
  intro S p
  rw [asGet_cons, lev, can]
  by_cases h : S = []
  · subst h; simp
  · have : ¬ ([] : List Int) = S := fun e => h e.symm
    simp [h, this, asGet_nil]
/-- rows of a table -/
structure Rows (P : List Int → Prop) (X : List Int → List (List Int)) (rows : List (List Int × D)) : Prop where
  keys : ∀ S, S ∈ rows.map (·.1) ↔ P S
  got : ∀ S, P S → asGet rows S = some (.lst ((X S).map tupI))
/-! best lots are few -/
def BestSmall (n : Nat) (m : Int) : Prop := ∀ S, LotOk n S → (bestLots S m).length < 64
theorem best6 {n : Nat} (hn : n ≤ 6) {m : Int} (hm : 1 ≤ m) : BestSmall n m := by
  intro S hS
  unfold bestLots
  by_cases c : (S.length : Int) ≤ m
  · rw [if_pos c]; simp
  · rw [if_neg c]
    have h1 : ((lotsOfL S m).filter fun l => decide ((l.length : Int) = m)).length < (lotsOfL S m).length := by
      rw [List.length_filter_lt_length_iff_exists]
      refine ⟨[], (lotsOfL_mem hS.1).mpr ⟨⟨List.Pairwise.nil, fun z hz => nomatch hz⟩, .inr rfl⟩, ?_⟩
      simp; omega
    have h2 : (lotsOfL S m).length ≤ 64 := by
      unfold lotsOfL
      rw [List.length_mergeSort]
      have := foldg_len m S [[]]
      have l := len_lot hS
      have : 2 ^ S.length ≤ 2 ^ 6 := Nat.pow_le_pow_right (by decide) (by omega)
      simp at *
      omega
    omega
/-! specs -/
def fLotsOf : F0 := fun ds k _ => ∃ (dS : D) (S : List Int) (m : Int), ds = [dS, .int m] ∧ itemsD dS = some (S.map .int) ∧ Asc S ∧ S.length ≤ 10 ∧ k (.lst ((lotsOfL S m).map tupI))
def fBestLots : F0 := fun ds k _ => ∃ (S : List Int) (m : Int), ds = [tupI S, .int m] ∧ Asc S ∧ S.length ≤ 10 ∧ k (.lst ((bestLots S m).map tupI))
def TabOk (w : Wn) (m : Int) (kvs : List (List Int × D)) : Prop := Tab (lawR w m) (LotOk w.n) kvs
def fDaysTable : F0 := fun ds k _ => ∃ (w : Wn) (m : Int), ds = [wD w, .int m] ∧ WOk w ∧ (1 ≤ m ∧ m ≤ 4) ∧ BestSmall w.n m ∧ ∀ kvs, TabOk w m kvs → k (.dT kvs)
/-- the days, or None -/
def dayD : Option Nat → D
  | some t => .int t
  | none => .non
def DayIs (w : Wn) (m : Int) (S : List Int) : Option Nat → Prop
  | some t => IsDay (lawR w m) S t
  | none => ∀ t, can (lawR w m) t S = false
theorem DayIs.uniq {w : Wn} {m : Int} {S : List Int} {o p : Option Nat} (h : DayIs w m S o) (g : DayIs w m S p) : o = p := by
  cases o with
  | none => cases p with
    | none => rfl
    | some u => have := h u; rw [g.1] at this; cases this
  | some t => cases p with
    | none => have := g t; rw [h.1] at this; cases this
    | some u => rw [IsDay.uniq h g]
theorem TabOk.day {w : Wn} {m : Int} {kvs : List (List Int × D)} (h : TabOk w m kvs) {S : List Int} (hS : LotOk w.n S) : ∃ o, asGet kvs S = o.map (fun (t : Nat) => D.int t) ∧ DayIs w m S o := by
  obtain ⟨h1, h2⟩ := h S hS
  cases e : asGet kvs S with
  | none => exact ⟨none, rfl, h2 e⟩
  | some d =>
    obtain ⟨t, rfl, ht⟩ := h1 d e
    exact ⟨some t, rfl, ht⟩
def fFewestDays : F0 := fun ds k _ => ∃ (w : Wn) (m : Int) (S : List Int), ds = [wD w, .int m, tupI S] ∧ WOk w ∧ (1 ≤ m ∧ m ≤ 4) ∧ BestSmall w.n m ∧ LotOk w.n S ∧ ∀ o, DayIs w m S o → k (dayD o)
/-- a plan of the fewest days -/
def PlanIs (w : Wn) (m : Int) (S : List Int) (t : Nat) (P : List (List Int)) : Prop := P.length = t ∧ (∀ L ∈ P, LotOk w.n L ∧ (L.length : Int) ≤ m) ∧ P.foldl (later w) S = []
def fPlan : F0 := fun ds k _ => ∃ (w : Wn) (m : Int) (S : List Int), ds = [wD w, .int m, tupI S] ∧ WOk w ∧ (1 ≤ m ∧ m ≤ 4) ∧ BestSmall w.n m ∧ LotOk w.n S ∧ ((∀ t, can (lawR w m) t S = false) → k .non) ∧ ∀ t P, IsDay (lawR w m) S t → PlanIs w m S t P → k (.lst (P.map tupI))
def fLawDays : F0 := fun ds k _ => ∃ (w : Wn) (m : Int), ds = [wD w, .int m] ∧ WOk w ∧ (0 ≤ m ∧ m ≤ 10) ∧ ∀ kvs, TabOk w m kvs → k (.dT kvs)
def fLawMet : F0 := fun ds k _ => ∃ (w : Wn) (S : List Int) (P : List (List Int)), ds = [wD w, tupI S, .lst (P.map tupI)] ∧ WOk w ∧ LotOk w.n S ∧ k (tupI (P.foldl (later w) S))
end MA

set_option Elab.async false
set_option linter.all false
set_option maxRecDepth 100000
/-! SpecC: dicts with tuple keys -/
namespace MA
open FX
theorem nodup_len {α : Type} [DecidableEq α] : ∀ (l m : List α), l.Nodup → (∀ z ∈ l, z ∈ m) → l.length ≤ m.length
  | [], m, _, _ => Nat.zero_le _
  | a :: l, m, h, hm => by
    rw [List.nodup_cons] at h
    have ha := hm a (List.mem_cons_self ..)
    have := nodup_len l (m.erase a) h.2 fun z hz => by
      have ne : z ≠ a := fun e => h.1 (by rw [← e]; exact hz)
      exact (List.mem_erase_of_ne ne).mpr (hm z (List.mem_cons_of_mem _ hz))
    rw [List.length_erase_of_mem ha] at this
    have := List.length_pos_of_mem ha
    rw [List.length_cons]; omega
theorem range_upto (n : Nat) : rangeL 0 (n : Int) = (upto n).map D.int := by
  unfold rangeL upto
  rw [List.map_map]
  have : ((n : Int) - 0).toNat = n := by omega
  rw [this]
  refine List.map_congr_left fun i _ => ?_
  show D.int (0 + (i : Int)) = D.int (i : Int)
  rw [Int.zero_add]
theorem getT (kvs : List (List Int × D)) (S : List Int) : dgetD (.dT kvs) (tupI S) = some (asGet kvs S) := dget_T kvs S
theorem putT (kvs : List (List Int × D)) (S : List Int) (d : D) : dputD (.dT kvs) (tupI S) d = some (.dT (asPut kvs S d)) := dput_T kvs S d
theorem notInT (kvs : List (List Int × D)) (S : List Int) : notInDict (tupI S) (.dT kvs) = some (.bl (asGet kvs S).isNone) := by
  unfold notInDict
  rw [getT]
  cases asGet kvs S <;> rfl
theorem inT (kvs : List (List Int × D)) (S : List Int) : inDict (tupI S) (.dT kvs) = some (.bl (asGet kvs S).isSome) := by
  unfold inDict
  rw [getT]; rfl
theorem itemT (kvs : List (List Int × D)) (S : List Int) : itemDict (.dT kvs) (tupI S) = asGet kvs S := by
  unfold itemDict
  rw [getT]; cases asGet kvs S <;> rfl
def lateD (w : Wn) (S : List Int) (d : D) : Option D := (intsOfT d).map fun L => tupI (later w S L)
theorem lateD_tup (w : Wn) (S L : List Int) : lateD w S (tupI L) = some (tupI (later w S L)) := by
  have e : intsOfT (tupI L) = some L := ints_self L
  unfold lateD
  rw [e]; rfl
theorem fm_lateD (w : Wn) (S : List Int) : ∀ l : List (List Int), (l.map tupI).filterMap (lateD w S) = (l.map (later w S)).map tupI
  | [] => rfl
  | a :: l => by
    rw [List.map_cons, List.filterMap_cons, lateD_tup, List.map_cons, List.map_cons, fm_lateD w S l]
def hasD (kvs : List (List Int × D)) (d : D) : Option D := inDict d (.dT kvs)
theorem fm_hasD (kvs : List (List Int × D)) : ∀ l : List (List Int), (l.map tupI).filterMap (hasD kvs) = l.map fun T => D.bl (asGet kvs T).isSome
  | [] => rfl
  | a :: l => by
    rw [List.map_cons, List.filterMap_cons, hasD, inT, List.map_cons, fm_hasD kvs l]
def newD (kvs : List (List Int × D)) (X : List Int → List (List Int)) (d : D) : Option D := match intsOfT d with
  | some S => if isNew kvs X S = true then some (tupI S) else none
  | none => none
theorem newD_tup (kvs : List (List Int × D)) (X : List Int → List (List Int)) (S : List Int) : newD kvs X (tupI S) = if isNew kvs X S = true then some (tupI S) else none := by
  have e : intsOfT (tupI S) = some S := ints_self S
  unfold newD
  rw [e]
theorem fm_newD (kvs : List (List Int × D)) (X : List Int → List (List Int)) : ∀ l : List (List Int), (l.map tupI).filterMap (newD kvs X) = (l.filter (isNew kvs X)).map tupI
  | [] => rfl
  | a :: l => by
    rw [List.map_cons, List.filterMap_cons, List.filter_cons, newD_tup]
    by_cases h : isNew kvs X a = true
    · simp only [h, if_true]
      rw [fm_newD kvs X l]; rfl
    · simp only [h, if_false, Bool.false_eq_true]
      rw [fm_newD kvs X l]
theorem keysT (kvs : List (List Int × D)) : keysD (.dT kvs) = some ((kvs.map (·.1)).map tupI) := by
  show some (kvs.map fun p => tupI p.1) = _
  rw [List.map_map]; rfl
theorem progR_ok {w : Wn} {m : Int} : ∀ S, LotOk w.n S → ∀ T ∈ progR w m S, LotOk w.n T := fun S _ T hT => by
  obtain ⟨L, _, rfl⟩ := List.mem_map.mp hT
  exact later_ok w S L
theorem lawR_ok {w : Wn} {m : Int} : ∀ S, LotOk w.n S → ∀ T ∈ lawR w m S, LotOk w.n T := fun S _ T hT => by
  obtain ⟨L, _, rfl⟩ := List.mem_map.mp hT
  exact later_ok w S L
theorem tab_prog {w : Wn} {m : Int} (hm : 0 ≤ m) {kvs : List (List Int × D)} (h : Tab (progR w m) (LotOk w.n) kvs) : TabOk w m kvs := fun S p => by
  obtain ⟨h1, h2⟩ := h S p
  refine ⟨fun d hd => ?_, fun hn t => ?_⟩
  · obtain ⟨t, e, c, c2⟩ := h1 d hd
    exact ⟨t, e, by rw [← can_eq w hm t S p]; exact c, fun u hu => by rw [← can_eq w hm u S p]; exact c2 u hu⟩
  · rw [← can_eq w hm t S p]; exact h2 hn t
theorem all_mem {n : Nat} {S : List Int} : S ∈ lots n n ↔ LotOk n S := by
  rw [lots_mem]
  constructor
  · exact fun h => h.1
  · exact fun h => ⟨h, .inl (by have := len_lot h; omega)⟩
end MA

set_option Elab.async false
set_option linter.all false
set_option maxRecDepth 100000
/-! SpecD: what a plan does -/
namespace MA
open FX
theorem minP_fst : ∀ (xs : List (Int × List Int)) (x y : Int × List Int), y ∈ x :: xs → (minP x xs).1 ≤ y.1
  | [], x, y, h => by
    rw [List.mem_singleton] at h
    subst h
    exact Int.le_refl _
  | z :: zs, x, y, h => by
    show (minP (if ltP z x then z else x) zs).1 ≤ y.1
    have ih := minP_fst zs (if ltP z x then z else x)
    have h0 := ih _ (List.mem_cons_self ..)
    have hx : (if ltP z x = true then z else x).1 ≤ x.1 ∧ (if ltP z x = true then z else x).1 ≤ z.1 := by
      unfold ltP
      by_cases c : z.1 < x.1 ∨ z.1 = x.1 ∧ z.2 < x.2
      · rw [if_pos (decide_eq_true c)]
        omega
      · rw [if_neg (by simpa using c)]
        omega
    rcases List.mem_cons.mp h with e | h
    · subst e; omega
    · rcases List.mem_cons.mp h with e | h
      · subst e; omega
      · exact ih y (List.mem_cons_of_mem _ h)
/-- the next day -/
theorem IsDay.step {R : List Int → List (List Int)} {S : List Int} {t : Nat} (h : IsDay R S (t + 1)) : (∃ T ∈ R S, IsDay R T t) ∧ ∀ T ∈ R S, ∀ u, can R u T = true → t ≤ u := by
  obtain ⟨h1, h2⟩ := h
  have lo : ∀ T ∈ R S, ∀ u, can R u T = true → t ≤ u := fun T hT u c => by
    by_cases q : t ≤ u
    · exact q
    · have : can R (u + 1) S = true := by
        rw [can, Bool.or_eq_true]
        exact .inr (List.any_eq_true.mpr ⟨T, hT, c⟩)
      rw [h2 (u + 1) (by omega)] at this
      cases this
  refine ⟨?_, lo⟩
  rw [can, h2 t (by omega), Bool.false_or] at h1
  obtain ⟨T, hT, c⟩ := List.any_eq_true.mp h1
  refine ⟨T, hT, c, fun u hu => ?_⟩
  cases q : can R u T with
  | false => rfl
  | true => have := lo T hT u q; omega
theorem day_chain {R : List Int → List (List Int)} {P : List Int → Prop} (hR : ∀ S, P S → ∀ T ∈ R S, P T) : ∀ (t : Nat) (S : List Int), P S → IsDay R S t → ∃ l : List (List Int), l.length = t + 1 ∧ l.Nodup ∧ ∀ T ∈ l, P T ∧ ∃ u, u ≤ t ∧ IsDay R T u
  | 0, S, p, h => ⟨[S], rfl, by simp, fun T hT => by rw [List.mem_singleton] at hT; subst hT; exact ⟨p, 0, Nat.le_refl _, h⟩⟩
  | t + 1, S, p, h => by
    obtain ⟨⟨T, hT, hd⟩, _⟩ := h.step
    obtain ⟨l, l1, l2, l3⟩ := day_chain hR t T (hR S p T hT) hd
    refine ⟨S :: l, by rw [List.length_cons, l1], List.nodup_cons.mpr ⟨fun m => ?_, l2⟩, fun U hU => ?_⟩
    · obtain ⟨_, u, hu, du⟩ := l3 S m
      have := IsDay.uniq du h
      omega
    · rcases List.mem_cons.mp hU with e | m
      · subst e; exact ⟨p, t + 1, Nat.le_refl _, h⟩
      · obtain ⟨a, u, hu, du⟩ := l3 U m
        exact ⟨a, u, by omega, du⟩
theorem day_bound {w : Wn} (hn : w.n ≤ 10) {m : Int} {S : List Int} (p : LotOk w.n S) {t : Nat} (h : IsDay (lawR w m) S t) : t ≤ 1023 := by
  obtain ⟨l, l1, l2, l3⟩ := day_chain lawR_ok t S p h
  have := nodup_len l (lots w.n w.n) l2 fun z hz => all_mem.mpr (l3 z hz).1
  have := lots_len hn w.n
  omega
theorem day_eq {w : Wn} {m : Int} (hm : 0 ≤ m) {S : List Int} (p : LotOk w.n S) {t : Nat} : IsDay (progR w m) S t ↔ IsDay (lawR w m) S t := by
  unfold IsDay
  rw [can_eq w hm t S p]
  constructor
  · exact fun h => ⟨h.1, fun u hu => by rw [← can_eq w hm u S p]; exact h.2 u hu⟩
  · exact fun h => ⟨h.1, fun u hu => by rw [can_eq w hm u S p]; exact h.2 u hu⟩
theorem day_nil {R : List Int → List (List Int)} {t : Nat} (h : IsDay R [] t) : t = 0 := by
  cases t with
  | zero => rfl
  | succ t => have := h.2 0 (by omega); rw [can] at this; simp at this
theorem day_zero {R : List Int → List (List Int)} {S : List Int} (h : IsDay R S 0) : S = [] := by
  have := h.1
  rw [can] at this
  exact of_decide_eq_true this
/-- what the table tells of the lot behind a look -/
def valT (w : Wn) (kvs : List (List Int × D)) (S L : List Int) : Int := match asGet kvs (later w S L) with
  | some (.int v) => v
  | _ => 1046529
def valD (w : Wn) (kvs : List (List Int × D)) (S : List Int) (d : D) : Option D := (intsOfT d).map fun L => prI (valT w kvs S L, L)
theorem valD_tup (w : Wn) (kvs : List (List Int × D)) (S L : List Int) : valD w kvs S (tupI L) = some (prI (valT w kvs S L, L)) := by
  have e : intsOfT (tupI L) = some L := ints_self L
  unfold valD
  rw [e]; rfl
theorem fm_valD (w : Wn) (kvs : List (List Int × D)) (S : List Int) : ∀ l : List (List Int), (l.map tupI).filterMap (valD w kvs S) = (l.map fun L => (valT w kvs S L, L)).map prI
  | [] => rfl
  | a :: l => by
    rw [List.map_cons, List.filterMap_cons, valD_tup, List.map_cons, List.map_cons, fm_valD w kvs S l]
theorem val_get {w : Wn} {m : Int} {kvs : List (List Int × D)} (h : TabOk w m kvs) (S L : List Int) : (asGet kvs (later w S L)).getD (.int 1046529) = .int (valT w kvs S L) := by
  obtain ⟨o, ho, _⟩ := h.day (later_ok w S L)
  unfold valT
  rw [ho]
  cases o <;> rfl
/-- the best look of the table is a good one -/
theorem best_step {w : Wn} (hn : w.n ≤ 10) {m : Int} (hm : 0 ≤ m) {kvs : List (List Int × D)} (h : TabOk w m kvs) {S : List Int} (p : LotOk w.n S) {t : Nat} (hd : IsDay (lawR w m) S (t + 1)) {z : Int × List Int} {zs : List (Int × List Int)} (e : ((bestLots S m).map fun L => (valT w kvs S L, L)) = z :: zs) :
    (minP z zs).2 ∈ bestLots S m ∧ IsDay (lawR w m) (later w S (minP z zs).2) t := by
  have hb := day_bound hn p hd
  obtain ⟨⟨T, hT, dT⟩, lo⟩ := ((day_eq hm p).mpr hd).step
  obtain ⟨L, hL, rfl⟩ := List.mem_map.mp hT
  have pT := later_ok w S L
  rw [day_eq hm pT] at dT
  have hv : valT w kvs S L = t := by
    obtain ⟨o, ho, hq⟩ := h.day pT
    have : o = some t := hq.uniq dT
    subst this
    unfold valT
    rw [ho]; rfl
  have hmem := minP_mem zs z
  rw [← e] at hmem
  obtain ⟨M, hM, eM⟩ := List.mem_map.mp hmem
  have le := minP_fst zs z (valT w kvs S L, L) (by rw [← e]; exact List.mem_map.mpr ⟨L, hL, rfl⟩)
  rw [← eM] at le ⊢
  simp only [] at le ⊢
  rw [hv] at le
  refine ⟨hM, ?_⟩
  have pM := later_ok w S M
  obtain ⟨o, ho, hq⟩ := h.day pM
  cases o with
  | none =>
    have hvM : valT w kvs S M = 1046529 := by
      unfold valT
      rw [ho]; rfl
    rw [hvM] at le; omega
  | some u =>
    have hvM : valT w kvs S M = u := by
      unfold valT
      rw [ho]; rfl
    rw [hvM] at le
    have hu : IsDay (lawR w m) (later w S M) u := hq
    have := lo _ (List.mem_map.mpr ⟨M, hM, rfl⟩) u (((day_eq hm pM).mpr hu).1)
    have : u = t := by omega
    subst this
    exact hu
theorem best_ne {w : Wn} {m : Int} (hm : 0 ≤ m) {S : List Int} (p : LotOk w.n S) {t : Nat} (hd : IsDay (lawR w m) S (t + 1)) : bestLots S m ≠ [] := by
  obtain ⟨⟨T, hT, dT⟩, _⟩ := ((day_eq hm p).mpr hd).step
  obtain ⟨L, hL, _⟩ := List.mem_map.mp hT
  intro e
  rw [e] at hL
  cases hL
end MA

set_option Elab.async false
set_option linter.all false
set_option maxRecDepth 100000
/-! SpecE: days of given warrens -/
namespace MA
open FX
def rawR (w : Wn) (m : Int) (S : List Int) : List (List Int) := (lotsRaw w.n m).map (later w S)
theorem any_ext {α : Type} {p : α → Bool} {l l' : List α} (h : ∀ z, z ∈ l ↔ z ∈ l') : l.any p = l'.any p := by
  rw [Bool.eq_iff_iff, List.any_eq_true, List.any_eq_true]
  constructor
  · rintro ⟨z, hz, c⟩; exact ⟨z, (h z).mp hz, c⟩
  · rintro ⟨z, hz, c⟩; exact ⟨z, (h z).mpr hz, c⟩
theorem raw_iff (w : Wn) (m : Int) (S T : List Int) : T ∈ lawR w m S ↔ T ∈ rawR w m S := by
  unfold lawR rawR lots
  rw [List.mem_map, List.mem_map]
  constructor
  · rintro ⟨L, hL, e⟩; exact ⟨L, List.mem_mergeSort.mp hL, e⟩
  · rintro ⟨L, hL, e⟩; exact ⟨L, List.mem_mergeSort.mpr hL, e⟩
theorem can_raw (w : Wn) (m : Int) : ∀ (t : Nat) (S : List Int), can (lawR w m) t S = can (rawR w m) t S
  | 0, S => rfl
  | t + 1, S => by
    rw [can, can, can_raw w m t S, any_ext (raw_iff w m S)]
    congr 2
    funext T
    exact can_raw w m t T
theorem day_raw {w : Wn} {m : Int} {S : List Int} {t : Nat} (h : can (rawR w m) t S = true) (h' : (List.range t).all (fun u => !can (rawR w m) u S) = true) : DayIs w m S (some t) := by
  refine ⟨by rw [can_raw]; exact h, fun u hu => ?_⟩
  rw [can_raw]
  have := List.all_eq_true.mp h' u (List.mem_range.mpr hu)
  simpa using this
theorem can_never {R : List Int → List (List Int)} {fam : List (List Int)} (h : fam.all (fun S => !decide (S = []) && (R S).all fun T => fam.contains T) = true) : ∀ (t : Nat) (S : List Int), S ∈ fam → can R t S = false
  | 0, S, hS => by
    have := List.all_eq_true.mp h S hS
    rw [Bool.and_eq_true] at this
    rw [can]
    simpa using this.1
  | t + 1, S, hS => by
    have q := List.all_eq_true.mp h S hS
    rw [Bool.and_eq_true] at q
    rw [can, can_never h t S hS, Bool.false_or]
    cases c : (R S).any (can R t) with
    | false => rfl
    | true =>
      obtain ⟨T, hT, c⟩ := List.any_eq_true.mp c
      have := List.all_eq_true.mp q.2 T hT
      rw [can_never h t T (by simpa using this)] at c
      cases c
theorem day_never {w : Wn} {m : Int} {S : List Int} (fam : List (List Int)) (h : fam.all (fun S => !decide (S = []) && (rawR w m S).all fun T => fam.contains T) = true) (hS : S ∈ fam) : DayIs w m S none := fun t => by
  rw [can_raw]
  exact can_never h t S hS
def path4 : Wn := ⟨4, [(0, 1), (1, 2), (2, 3)]⟩
def ring3 : Wn := ⟨3, [(0, 1), (0, 2), (1, 2)]⟩
theorem path_a : DayIs path4 1 [0, 1, 2, 3] (some 4) := day_raw (by decide +kernel) (by decide +kernel)
theorem path_b : DayIs path4 1 [0, 2] (some 2) := day_raw (by decide +kernel) (by decide +kernel)
theorem path_c : DayIs path4 4 [1, 2] (some 1) := day_raw (by decide +kernel) (by decide +kernel)
theorem ring_a : DayIs ring3 1 [0, 1] none := day_never [[0, 1], [0, 2], [1, 2], [0, 1, 2]] (by decide +kernel) (by simp)
theorem ring_b : DayIs ring3 2 [0, 1, 2] (some 2) := day_raw (by decide +kernel) (by decide +kernel)
theorem path_ok : WOk path4 := ⟨by decide, by decide, by simp [path4, ring3, ltE], by decide, fun h h0 h1 => by
  have : h = 0 ∨ h = 1 ∨ h = 2 ∨ h = 3 := by
    have : h < 4 := h1
    omega
  rcases this with rfl | rfl | rfl | rfl <;> decide⟩
theorem ring_ok : WOk ring3 := ⟨by decide, by decide, by simp [path4, ring3, ltE], by decide, fun h h0 h1 => by
  have : h = 0 ∨ h = 1 ∨ h = 2 := by
    have : h < 3 := h1
    omega
  rcases this with rfl | rfl | rfl <;> decide⟩
end MA

set_option Elab.async false
set_option linter.all false
set_option maxRecDepth 100000
set_option maxHeartbeats 4000000
/-! printed by gen.py: readings and derivations -/
namespace K02
open PySem PySem.Spec PyProof.Rows L2 FX
def top (i : Nat) : Stmt := PySem.Challenge.pw_foxholes_k02_whole_the_fewest_days.main.body.getD i (.Pass ⟨0, 0, 0, 0⟩)
abbrev s_is_from : Stmt := top 8
theorem sc_is_from : FnScope ["thing", "low", "high"] ["thing", "low", "high"] (defScope s_is_from) := ⟨rfl, rfl, rfl, by decide +kernel, rfl, by decide +kernel, by decide +kernel⟩
abbrev s_is_passage : Stmt := top 9
theorem sc_is_passage : FnScope ["holes", "thing", "one"] ["holes", "thing"] (defScope s_is_passage) := ⟨rfl, rfl, rfl, by decide +kernel, rfl, by decide +kernel, by decide +kernel⟩
abbrev s_is_warren : Stmt := top 10
theorem sc_is_warren : FnScope ["thing", "holes", "passages", "one", "other", "hole"] ["thing"] (defScope s_is_warren) := ⟨rfl, rfl, rfl, by decide +kernel, rfl, by decide +kernel, by decide +kernel⟩
abbrev s_good_lot : Stmt := top 11
theorem sc_good_lot : FnScope ["warren", "thing", "hole", "one", "other"] ["warren", "thing"] (defScope s_good_lot) := ⟨rfl, rfl, rfl, by decide +kernel, rfl, by decide +kernel, by decide +kernel⟩
abbrev s_look_warren : Stmt := top 12
theorem sc_look_warren : FnScope ["warren"] ["warren"] (defScope s_look_warren) := ⟨rfl, rfl, rfl, by decide +kernel, rfl, by decide +kernel, by decide +kernel⟩
abbrev s_look_lookers : Stmt := top 13
theorem sc_look_lookers : FnScope ["lookers"] ["lookers"] (defScope s_look_lookers) := ⟨rfl, rfl, rfl, by decide +kernel, rfl, by decide +kernel, by decide +kernel⟩
abbrev s_look_lot : Stmt := top 14
theorem sc_look_lot : FnScope ["warren", "lot"] ["warren", "lot"] (defScope s_look_lot) := ⟨rfl, rfl, rfl, by decide +kernel, rfl, by decide +kernel, by decide +kernel⟩
abbrev s_next_to : Stmt := top 15
theorem sc_next_to : FnScope ["warren", "hole", "pair", "one"] ["warren", "hole"] (defScope s_next_to) := ⟨rfl, rfl, rfl, by decide +kernel, rfl, by decide +kernel, by decide +kernel⟩
abbrev s_later : Stmt := top 16
theorem sc_later : FnScope ["warren", "where", "lot", "found", "hole", "one"] ["warren", "where", "lot"] (defScope s_later) := ⟨rfl, rfl, rfl, by decide +kernel, rfl, by decide +kernel, by decide +kernel⟩
abbrev s_lots_of : Stmt := top 17
theorem sc_lots_of : FnScope ["holes", "most", "found", "hole", "lot"] ["holes", "most"] (defScope s_lots_of) := ⟨rfl, rfl, rfl, by decide +kernel, rfl, by decide +kernel, by decide +kernel⟩
abbrev s_best_lots : Stmt := top 19
theorem sc_best_lots : FnScope ["where", "lookers", "lot"] ["where", "lookers"] (defScope s_best_lots) := ⟨rfl, rfl, rfl, by decide +kernel, rfl, by decide +kernel, by decide +kernel⟩
abbrev s_days_table : Stmt := top 20
theorem sc_days_table : FnScope ["warren", "lookers", "rows", "where", "found", "days", "going", "new", "lot", "one"] ["warren", "lookers"] (defScope s_days_table) := ⟨rfl, rfl, rfl, by decide +kernel, rfl, by decide +kernel, by decide +kernel⟩
abbrev s_is_plan : Stmt := top 23
theorem sc_is_plan : FnScope ["warren", "lookers", "thing", "lot"] ["warren", "lookers", "thing"] (defScope s_is_plan) := ⟨rfl, rfl, rfl, by decide +kernel, rfl, by decide +kernel, by decide +kernel⟩
abbrev s_look_all : Stmt := top 24
theorem sc_look_all : FnScope ["warren", "lookers", "where"] ["warren", "lookers", "where"] (defScope s_look_all) := ⟨rfl, rfl, rfl, by decide +kernel, rfl, by decide +kernel, by decide +kernel⟩
abbrev s_surely : Stmt := top 25
theorem sc_surely : FnScope ["warren", "lookers", "where", "thing", "lot"] ["warren", "lookers", "where", "thing"] (defScope s_surely) := ⟨rfl, rfl, rfl, by decide +kernel, rfl, by decide +kernel, by decide +kernel⟩
abbrev s_fewest_days : Stmt := top 26
theorem sc_fewest_days : FnScope ["warren", "lookers", "where"] ["warren", "lookers", "where"] (defScope s_fewest_days) := ⟨rfl, rfl, rfl, by decide +kernel, rfl, by decide +kernel, by decide +kernel⟩
abbrev s_plan : Stmt := top 27
theorem sc_plan : FnScope ["warren", "lookers", "where", "table", "found", "some", "lot"] ["warren", "lookers", "where"] (defScope s_plan) := ⟨rfl, rfl, rfl, by decide +kernel, rfl, by decide +kernel, by decide +kernel⟩
abbrev s__law_bag : Stmt := top 29
theorem sc__law_bag : FnScope ["script", "k", "cell", "seed"] ["script", "k"] (defScope s__law_bag) := ⟨rfl, rfl, rfl, by decide +kernel, rfl, by decide +kernel, by decide +kernel⟩
abbrev s__law_take : Stmt := top 30
theorem sc__law_take : FnScope ["bag", "count", "found"] ["bag", "count"] (defScope s__law_take) := ⟨rfl, rfl, rfl, by decide +kernel, rfl, by decide +kernel, by decide +kernel⟩
abbrev s__law_of : Stmt := top 31
theorem sc__law_of : FnScope ["bag", "some"] ["bag", "some"] (defScope s__law_of) := ⟨rfl, rfl, rfl, by decide +kernel, rfl, by decide +kernel, by decide +kernel⟩
abbrev s__law_warren : Stmt := top 32
theorem sc__law_warren : FnScope ["bag", "most", "holes", "found", "hole", "near", "turn", "one", "other", "pair"] ["bag", "most"] (defScope s__law_warren) := ⟨rfl, rfl, rfl, by decide +kernel, rfl, by decide +kernel, by decide +kernel⟩
abbrev s__law_near : Stmt := top 33
theorem sc__law_near : FnScope ["warren", "hole", "one"] ["warren", "hole"] (defScope s__law_near) := ⟨rfl, rfl, rfl, by decide +kernel, rfl, by decide +kernel, by decide +kernel⟩
abbrev s__law_later : Stmt := top 34
theorem sc__law_later : FnScope ["warren", "where", "lot", "found", "hole", "one"] ["warren", "where", "lot"] (defScope s__law_later) := ⟨rfl, rfl, rfl, by decide +kernel, rfl, by decide +kernel, by decide +kernel⟩
abbrev s__law_lots : Stmt := top 35
theorem sc__law_lots : FnScope ["holes", "most", "found", "hole", "lot_so"] ["holes", "most"] (defScope s__law_lots) := ⟨rfl, rfl, rfl, by decide +kernel, rfl, by decide +kernel, by decide +kernel⟩
abbrev s__law_days : Stmt := top 36
theorem sc__law_days : FnScope ["warren", "lookers", "looks", "rows", "where", "found", "going", "turn", "new", "lot_so", "one"] ["warren", "lookers"] (defScope s__law_days) := ⟨rfl, rfl, rfl, by decide +kernel, rfl, by decide +kernel, by decide +kernel⟩
abbrev s__law_met : Stmt := top 37
theorem sc__law_met : FnScope ["warren", "where", "told", "lot_so"] ["warren", "where", "told"] (defScope s__law_met) := ⟨rfl, rfl, rfl, by decide +kernel, rfl, by decide +kernel, by decide +kernel⟩
abbrev s__law_told_right : Stmt := top 38
theorem sc__law_told_right : FnScope ["warren", "lookers", "where", "due", "every", "told", "days", "lot_so"] ["warren", "lookers", "where", "due", "every"] (defScope s__law_told_right) := ⟨rfl, rfl, rfl, by decide +kernel, rfl, by decide +kernel, by decide +kernel⟩
abbrev s_law : Stmt := top 39
theorem sc_law : FnScope ["script", "k", "bag", "warren", "lookers", "table", "every", "where", "looks", "turn", "drawn", "long", "bad", "path", "told", "ring", "day", "one"] ["script"] (defScope s_law) := ⟨rfl, rfl, rfl, by decide +kernel, rfl, by decide +kernel, by decide +kernel⟩
/-- what the top has written -/
structure Md (K : PySem.W.Frag) (mg : Str → Option Value) where
  a_is_from : Addr
  d_is_from : FuncData
  F_is_from : Fun K "is_from" "is_from" s_is_from a_is_from d_is_from
  m_is_from : mg "is_from" = some (.ref a_is_from)
  b_is_from : Binds K d_is_from ["thing", "low", "high"] []
  a_is_passage : Addr
  d_is_passage : FuncData
  F_is_passage : Fun K "is_passage" "is_passage" s_is_passage a_is_passage d_is_passage
  m_is_passage : mg "is_passage" = some (.ref a_is_passage)
  b_is_passage : Binds K d_is_passage ["holes", "thing"] []
  a_is_warren : Addr
  d_is_warren : FuncData
  F_is_warren : Fun K "is_warren" "is_warren" s_is_warren a_is_warren d_is_warren
  m_is_warren : mg "is_warren" = some (.ref a_is_warren)
  b_is_warren : Binds K d_is_warren ["thing"] []
  a_good_lot : Addr
  d_good_lot : FuncData
  F_good_lot : Fun K "good_lot" "good_lot" s_good_lot a_good_lot d_good_lot
  m_good_lot : mg "good_lot" = some (.ref a_good_lot)
  b_good_lot : Binds K d_good_lot ["warren", "thing"] []
  a_look_warren : Addr
  d_look_warren : FuncData
  F_look_warren : Fun K "look_warren" "look_warren" s_look_warren a_look_warren d_look_warren
  m_look_warren : mg "look_warren" = some (.ref a_look_warren)
  b_look_warren : Binds K d_look_warren ["warren"] []
  a_look_lookers : Addr
  d_look_lookers : FuncData
  F_look_lookers : Fun K "look_lookers" "look_lookers" s_look_lookers a_look_lookers d_look_lookers
  m_look_lookers : mg "look_lookers" = some (.ref a_look_lookers)
  b_look_lookers : Binds K d_look_lookers ["lookers"] []
  a_look_lot : Addr
  d_look_lot : FuncData
  F_look_lot : Fun K "look_lot" "look_lot" s_look_lot a_look_lot d_look_lot
  m_look_lot : mg "look_lot" = some (.ref a_look_lot)
  b_look_lot : Binds K d_look_lot ["warren", "lot"] []
  a_next_to : Addr
  d_next_to : FuncData
  F_next_to : Fun K "next_to" "next_to" s_next_to a_next_to d_next_to
  m_next_to : mg "next_to" = some (.ref a_next_to)
  b_next_to : Binds K d_next_to ["warren", "hole"] []
  a_later : Addr
  d_later : FuncData
  F_later : Fun K "later" "later" s_later a_later d_later
  m_later : mg "later" = some (.ref a_later)
  b_later : Binds K d_later ["warren", "where", "lot"] []
  a_lots_of : Addr
  d_lots_of : FuncData
  F_lots_of : Fun K "lots_of" "lots_of" s_lots_of a_lots_of d_lots_of
  m_lots_of : mg "lots_of" = some (.ref a_lots_of)
  b_lots_of : Binds K d_lots_of ["holes", "most"] []
  a_best_lots : Addr
  d_best_lots : FuncData
  F_best_lots : Fun K "best_lots" "best_lots" s_best_lots a_best_lots d_best_lots
  m_best_lots : mg "best_lots" = some (.ref a_best_lots)
  b_best_lots : Binds K d_best_lots ["where", "lookers"] []
  a_days_table : Addr
  d_days_table : FuncData
  F_days_table : Fun K "days_table" "days_table" s_days_table a_days_table d_days_table
  m_days_table : mg "days_table" = some (.ref a_days_table)
  b_days_table : Binds K d_days_table ["warren", "lookers"] []
  a_is_plan : Addr
  d_is_plan : FuncData
  F_is_plan : Fun K "is_plan" "is_plan" s_is_plan a_is_plan d_is_plan
  m_is_plan : mg "is_plan" = some (.ref a_is_plan)
  b_is_plan : Binds K d_is_plan ["warren", "lookers", "thing"] []
  a_look_all : Addr
  d_look_all : FuncData
  F_look_all : Fun K "look_all" "look_all" s_look_all a_look_all d_look_all
  m_look_all : mg "look_all" = some (.ref a_look_all)
  b_look_all : Binds K d_look_all ["warren", "lookers", "where"] []
  a_surely : Addr
  d_surely : FuncData
  F_surely : Fun K "surely" "surely" s_surely a_surely d_surely
  m_surely : mg "surely" = some (.ref a_surely)
  b_surely : Binds K d_surely ["warren", "lookers", "where", "thing"] []
  a_fewest_days : Addr
  d_fewest_days : FuncData
  F_fewest_days : Fun K "fewest_days" "fewest_days" s_fewest_days a_fewest_days d_fewest_days
  m_fewest_days : mg "fewest_days" = some (.ref a_fewest_days)
  b_fewest_days : Binds K d_fewest_days ["warren", "lookers", "where"] []
  a_plan : Addr
  d_plan : FuncData
  F_plan : Fun K "plan" "plan" s_plan a_plan d_plan
  m_plan : mg "plan" = some (.ref a_plan)
  b_plan : Binds K d_plan ["warren", "lookers", "where"] []
  a__law_bag : Addr
  d__law_bag : FuncData
  F__law_bag : Fun K "_law_bag" "_law_bag" s__law_bag a__law_bag d__law_bag
  m__law_bag : mg "_law_bag" = some (.ref a__law_bag)
  b__law_bag : Binds K d__law_bag ["script", "k"] []
  a__law_take : Addr
  d__law_take : FuncData
  F__law_take : Fun K "_law_take" "_law_take" s__law_take a__law_take d__law_take
  m__law_take : mg "_law_take" = some (.ref a__law_take)
  b__law_take : Binds K d__law_take ["bag", "count"] []
  a__law_of : Addr
  d__law_of : FuncData
  F__law_of : Fun K "_law_of" "_law_of" s__law_of a__law_of d__law_of
  m__law_of : mg "_law_of" = some (.ref a__law_of)
  b__law_of : Binds K d__law_of ["bag", "some"] []
  a__law_warren : Addr
  d__law_warren : FuncData
  F__law_warren : Fun K "_law_warren" "_law_warren" s__law_warren a__law_warren d__law_warren
  m__law_warren : mg "_law_warren" = some (.ref a__law_warren)
  b__law_warren : Binds K d__law_warren ["bag", "most"] []
  a__law_near : Addr
  d__law_near : FuncData
  F__law_near : Fun K "_law_near" "_law_near" s__law_near a__law_near d__law_near
  m__law_near : mg "_law_near" = some (.ref a__law_near)
  b__law_near : Binds K d__law_near ["warren", "hole"] []
  a__law_later : Addr
  d__law_later : FuncData
  F__law_later : Fun K "_law_later" "_law_later" s__law_later a__law_later d__law_later
  m__law_later : mg "_law_later" = some (.ref a__law_later)
  b__law_later : Binds K d__law_later ["warren", "where", "lot"] []
  a__law_lots : Addr
  d__law_lots : FuncData
  F__law_lots : Fun K "_law_lots" "_law_lots" s__law_lots a__law_lots d__law_lots
  m__law_lots : mg "_law_lots" = some (.ref a__law_lots)
  b__law_lots : Binds K d__law_lots ["holes", "most"] []
  a__law_days : Addr
  d__law_days : FuncData
  F__law_days : Fun K "_law_days" "_law_days" s__law_days a__law_days d__law_days
  m__law_days : mg "_law_days" = some (.ref a__law_days)
  b__law_days : Binds K d__law_days ["warren", "lookers"] []
  a__law_met : Addr
  d__law_met : FuncData
  F__law_met : Fun K "_law_met" "_law_met" s__law_met a__law_met d__law_met
  m__law_met : mg "_law_met" = some (.ref a__law_met)
  b__law_met : Binds K d__law_met ["warren", "where", "told"] []
  a__law_told_right : Addr
  d__law_told_right : FuncData
  F__law_told_right : Fun K "_law_told_right" "_law_told_right" s__law_told_right a__law_told_right d__law_told_right
  m__law_told_right : mg "_law_told_right" = some (.ref a__law_told_right)
  b__law_told_right : Binds K d__law_told_right ["warren", "lookers", "where", "due", "every"] []
  a_law : Addr
  d_law : FuncData
  F_law : Fun K "law" "law" s_law a_law d_law
  m_law : mg "law" = some (.ref a_law)
  b_law : Binds K d_law ["script"] []
  t_HOLES : Tok
  c_HOLES : mg "HOLES" = some (.int 10 t_HOLES)
  t_LOOKERS : Tok
  c_LOOKERS : mg "LOOKERS" = some (.int 4 t_LOOKERS)
  t_DAYS : Tok
  c_DAYS : mg "DAYS" = some (.int 1023 t_DAYS)
  z_all : mg "all" = none
  z_any : mg "any" = none
  z_bool : mg "bool" = none
  z_int : mg "int" = none
  z_isinstance : mg "isinstance" = none
  z_len : mg "len" = none
  z_list : mg "list" = none
  z_max : mg "max" = none
  z_min : mg "min" = none
  z_range : mg "range" = none
  z_set : mg "set" = none
  z_sorted : mg "sorted" = none
  z_tuple : mg "tuple" = none
  z_zip : mg "zip" = none

def t_is_from  : DS := (sRet (dAndV (dIsi "int" (dVar 0)) (dAndV (dNotV (dIsi "bool" (dVar 0))) (dChain leD leD (dVar 1) (dVar 0) (dVar 2)))))
theorem der_is_from {P : Program} {w : World} {K : PySem.W.Frag} {mg : Str → Option Value} {base : Heap} (D : Md K mg)  (cdv : Value) (A : Around) (outer : List PySem.Env) (s : Shared) (H : Hp) (E : XK)
    (hr : Room 0 (A.deeper (envOfC "is_from" (defScope s_is_from) s.heap.objs.size D.a_is_from cdv))) : PSs (cxOf CX0 P w K mg base ["thing", "low", "high"] "is_from" (defScope s_is_from) D.a_is_from cdv A outer s H E).nox (defBody s_is_from) (upS K W0 false (t_is_from )) :=
  (ds_one (ds_ret (de_and (de_isi (T := "int") (by decide) (by rfl) D.z_isinstance (pe_bltn (v := .ty "int") (by rfl) D.z_int (by decide +kernel) rfl) (de_var 0)) (de_and (de_not (de_isi (T := "bool") (by decide) (by rfl) D.z_isinstance (pe_bltn (v := .ty "bool") (by rfl) D.z_bool (by decide +kernel) rfl) (de_var 0))) (de_one (de_chain op_le op_le b_le b_le (de_var 1) (de_var 0) (de_var 2)))))))
theorem fn_is_from {P : Program} {w : World} {K : PySem.W.Frag} {mg : Str → Option Value} {base : Heap} (D : Md K mg)  {φ : F0} (h : ∀ ds k x, φ ds k x → ds.length = 3 ∧ t_is_from  (endF0 false k x) (envF0 ["thing", "low", "high"] ds)) : FnOk P w K mg base CX0 1 D.a_is_from D.d_is_from ["thing", "low", "high"] (spF0 K EW0 false φ) :=
  fn_F0 D.F_is_from sc_is_from rfl h fun cdv A outer s H E hr => der_is_from D  cdv A outer s H E hr

def t_is_passage (φ_is_from : F0) : DS := (sSeq (sIf (dtOr (dtNot (dtTru (dIsi "tuple" (dVar 1)))) (dtOr (dtB (dOp neOp (dCall lenF (daCons (dVar 1) daNil)) (dC (.int 2)))) (dtNot (dtTru (dCall allF (daCons (dLc (diSeq (dVar 1)) (dgName 2) dtYes (dF0 φ_is_from (daCons (dVar 2) (daCons (dC (.int 0)) (daCons (dOp subD (dVar 0) (dC (.int 1))) daNil)))) [2]) daNil)))))) (sRet (dC (.bl false))) sNext) (sRet (dOp ltD (dOp ixD (dVar 1) (dC (.int 0))) (dOp ixD (dVar 1) (dC (.int 1))))))
theorem der_is_passage {P : Program} {w : World} {K : PySem.W.Frag} {mg : Str → Option Value} {base : Heap} (D : Md K mg) {φ_is_from : F0} (G_is_from : FnOk P w K mg base CX0 1 D.a_is_from D.d_is_from ["thing", "low", "high"] (spF0 K EW0 false φ_is_from)) (cdv : Value) (A : Around) (outer : List PySem.Env) (s : Shared) (H : Hp) (E : XK)
    (hr : Room 1 (A.deeper (envOfC "is_passage" (defScope s_is_passage) s.heap.objs.size D.a_is_passage cdv))) : PSs (cxOf CX0 P w K mg base ["holes", "thing", "one"] "is_passage" (defScope s_is_passage) D.a_is_passage cdv A outer s H E).nox (defBody s_is_passage) (upS K W0 false (t_is_passage φ_is_from)) :=
  (ds_cons (ds_if (dw_or (dt_not (dt_tru (de_isi (T := "tuple") (by decide) (by rfl) D.z_isinstance (pe_bltn (v := .ty "tuple") (by rfl) D.z_tuple (by decide +kernel) rfl) (de_var 1)))) (dw_or (dt_cmp (op_neD hr.u64) b_ne (de_callB call_len_seq c_len (by rfl) D.z_len (by decide +kernel) (da_cons (de_var 1) da_nil)) de_int (by rfl)) (dw_or1 (dt_not (dt_tru (de_callB (cr_all (by rfl)) c_all (by rfl) D.z_all (by decide +kernel) (da_cons (de_F (de_lc (own := [("one", 2)]) [2] rfl (by rfl) sc_is_passage.nd (di_seq (de_var 1)) (blkOk_by (N := ["holes", "thing", "one"]) (sc := defScope s_is_passage) (by decide +kernel)) (fun _ _ _ _ _ => (dg_name (vs := [2]) sc_is_passage.nd rfl (by first | exact Or.inl rfl | exact Or.inr rfl) (by decide))) (fun _ _ _ _ _ => dts_nil) (fun _ _ _ _ _ => (de_f0 ((G_is_from).mono (by decide)) hr (by rfl) D.m_is_from D.F_is_from.kp D.b_is_from (da_cons (de_var 2) (da_cons de_int (da_cons (de_op op_sub b_sub (de_var 0) de_int) da_nil))))))) da_nil))))))).pt (ds_one (ds_ret de_bl)) ds_nil) (ds_one (ds_ret (de_cmp (op_ltA hr.u0) b_lt (de_ix ix_seq b_ix (de_var 1) de_int (fun _ _ => rfl)) (de_ix ix_seq b_ix (de_var 1) de_int (fun _ _ => rfl)) (by rfl)))))
theorem fn_is_passage {P : Program} {w : World} {K : PySem.W.Frag} {mg : Str → Option Value} {base : Heap} (D : Md K mg) {φ_is_from : F0} (G_is_from : FnOk P w K mg base CX0 1 D.a_is_from D.d_is_from ["thing", "low", "high"] (spF0 K EW0 false φ_is_from)) {φ : F0} (h : ∀ ds k x, φ ds k x → ds.length = 2 ∧ t_is_passage φ_is_from (endF0 false k x) (envF0 ["holes", "thing", "one"] ds)) : FnOk P w K mg base CX0 2 D.a_is_passage D.d_is_passage ["holes", "thing"] (spF0 K EW0 false φ) :=
  fn_F0 D.F_is_passage sc_is_passage rfl h fun cdv A outer s H E hr => der_is_passage D G_is_from cdv A outer s H E hr

def t_is_warren (φ_is_from : F0) (φ_is_passage : F0) : DS := (sSeq (sIf (dtOr (dtNot (dtTru (dIsi "tuple" (dVar 0)))) (dtOr (dtB (dOp neOp (dCall lenF (daCons (dVar 0) daNil)) (dC (.int 2)))) (dtNot (dtTru (dF0 φ_is_from (daCons (dOp ixD (dVar 0) (dC (.int 0))) (daCons (dC (.int 2)) (daCons (dC (.int 10)) daNil)))))))) (sRet (dC (.bl false))) sNext) (sSeq (sUnp [1, 2] (dVar 0)) (sSeq (sIf (dtOr (dtNot (dtTru (dIsi "tuple" (dVar 2)))) (dtNot (dtTru (dCall allF (daCons (dLc (diSeq (dVar 2)) (dgName 3) dtYes (dF0 φ_is_passage (daCons (dVar 1) (daCons (dVar 3) daNil))) [3]) daNil))))) (sRet (dC (.bl false))) sNext) (sSeq (sIf (dtNot (dtTru (dCall allF (daCons (dLc (diZip (dVar 2) (dSl (dVar 2) (dpS (dC (.int 1))) dpN)) (dgTup [3, 4]) dtYes (dOp ltD (dVar 3) (dVar 4)) [3, 4]) daNil)))) (sRet (dC (.bl false))) sNext) (sRet (dCall allF (daCons (dLc (diRng1 (dVar 1)) (dgName 5) dtYes (dCall anyF (daCons (dLc (diSeq (dVar 2)) (dgName 3) dtYes (dOp inOp (dVar 5) (dVar 3)) [3]) daNil)) [5]) daNil)))))))
theorem der_is_warren {P : Program} {w : World} {K : PySem.W.Frag} {mg : Str → Option Value} {base : Heap} (D : Md K mg) {φ_is_from : F0} (G_is_from : FnOk P w K mg base CX0 1 D.a_is_from D.d_is_from ["thing", "low", "high"] (spF0 K EW0 false φ_is_from)) {φ_is_passage : F0} (G_is_passage : FnOk P w K mg base CX0 2 D.a_is_passage D.d_is_passage ["holes", "thing"] (spF0 K EW0 false φ_is_passage)) (cdv : Value) (A : Around) (outer : List PySem.Env) (s : Shared) (H : Hp) (E : XK)
    (hr : Room 2 (A.deeper (envOfC "is_warren" (defScope s_is_warren) s.heap.objs.size D.a_is_warren cdv))) : PSs (cxOf CX0 P w K mg base ["thing", "holes", "passages", "one", "other", "hole"] "is_warren" (defScope s_is_warren) D.a_is_warren cdv A outer s H E).nox (defBody s_is_warren) (upS K W0 false (t_is_warren φ_is_from φ_is_passage)) :=
  (ds_cons (ds_if (dw_or (dt_not (dt_tru (de_isi (T := "tuple") (by decide) (by rfl) D.z_isinstance (pe_bltn (v := .ty "tuple") (by rfl) D.z_tuple (by decide +kernel) rfl) (de_var 0)))) (dw_or (dt_cmp (op_neD hr.u64) b_ne (de_callB call_len_seq c_len (by rfl) D.z_len (by decide +kernel) (da_cons (de_var 0) da_nil)) de_int (by rfl)) (dw_or1 (dt_not (dt_tru (de_f0 ((G_is_from).mono (by decide)) hr (by rfl) D.m_is_from D.F_is_from.kp D.b_is_from (da_cons (de_ix ix_seq b_ix (de_var 0) de_int (fun _ _ => rfl)) (da_cons de_int (da_cons (de_globI (by rfl) D.c_HOLES) da_nil))))))))).pt (ds_one (ds_ret de_bl)) ds_nil) (ds_cons (ds_unp (de_var 0) (dg_tup (by rfl) (dgs_cons (vs := [1, 2]) sc_is_warren.nd rfl (by first | exact Or.inl rfl | exact Or.inr rfl) (by decide) (dgs_cons (vs := [1, 2]) sc_is_warren.nd rfl (by first | exact Or.inl rfl | exact Or.inr rfl) (by decide) (dgs_nil (vs := [1, 2])))) (by rfl))) (ds_cons (ds_if (dw_or (dt_not (dt_tru (de_isi (T := "tuple") (by decide) (by rfl) D.z_isinstance (pe_bltn (v := .ty "tuple") (by rfl) D.z_tuple (by decide +kernel) rfl) (de_var 2)))) (dw_or1 (dt_not (dt_tru (de_callB (cr_all (by rfl)) c_all (by rfl) D.z_all (by decide +kernel) (da_cons (de_F (de_lc (own := [("one", 3)]) [3] rfl (by rfl) sc_is_warren.nd (di_seq (de_var 2)) (blkOk_by (N := ["thing", "holes", "passages", "one", "other", "hole"]) (sc := defScope s_is_warren) (by decide +kernel)) (fun _ _ _ _ _ => (dg_name (vs := [3]) sc_is_warren.nd rfl (by first | exact Or.inl rfl | exact Or.inr rfl) (by decide))) (fun _ _ _ _ _ => dts_nil) (fun _ _ _ _ _ => (de_f0 ((G_is_passage).mono (by decide)) hr (by rfl) D.m_is_passage D.F_is_passage.kp D.b_is_passage (da_cons (de_var 1) (da_cons (de_var 3) da_nil)))))) da_nil)))))).pt (ds_one (ds_ret de_bl)) ds_nil) (ds_cons (ds_if (dt_not (dt_tru (de_callB (cr_all (by rfl)) c_all (by rfl) D.z_all (by decide +kernel) (da_cons (de_F (de_lc (own := [("one", 3), ("other", 4)]) [3, 4] rfl (by rfl) sc_is_warren.nd (di_zip (by rfl) D.z_zip (de_var 2) (de_sl (de_var 2) (dp_some de_int) dp_none)) (blkOk_by (N := ["thing", "holes", "passages", "one", "other", "hole"]) (sc := defScope s_is_warren) (by decide +kernel)) (fun _ _ _ _ _ => (dg_tup (by rfl) (dgs_cons (vs := [3, 4]) sc_is_warren.nd rfl (by first | exact Or.inl rfl | exact Or.inr rfl) (by decide) (dgs_cons (vs := [3, 4]) sc_is_warren.nd rfl (by first | exact Or.inl rfl | exact Or.inr rfl) (by decide) (dgs_nil (vs := [3, 4])))) (by rfl))) (fun _ _ _ _ _ => dts_nil) (fun _ _ _ _ _ => (de_cmp (op_ltA hr.u0) b_lt (de_var 3) (de_var 4) (by rfl))))) da_nil)))) (ds_one (ds_ret de_bl)) ds_nil) (ds_one (ds_ret (de_callB (cr_all (by rfl)) c_all (by rfl) D.z_all (by decide +kernel) (da_cons (de_F (de_lc (own := [("hole", 5)]) [5] rfl (by rfl) sc_is_warren.nd (di_rng1 (by rfl) D.z_range (de_var 1)) (blkOk_by (N := ["thing", "holes", "passages", "one", "other", "hole"]) (sc := defScope s_is_warren) (by decide +kernel)) (fun _ _ _ _ _ => (dg_name (vs := [5]) sc_is_warren.nd rfl (by first | exact Or.inl rfl | exact Or.inr rfl) (by decide))) (fun _ _ _ _ _ => dts_nil) (fun _ _ _ _ _ => (de_callB (cr_any (by rfl)) c_any (by rfl) D.z_any (by decide +kernel) (da_cons (de_F (de_lc (own := [("one", 3)]) [3] rfl (by rfl) sc_is_warren.nd (di_seq (de_var 2)) (blkOk_by (N := ["thing", "holes", "passages", "one", "other", "hole"]) (sc := { kind := PySem.ScopeKind.function, names := [(PySem.Str.ofString ".0", PySem.NameKind.local), (PySem.Str.ofString "hole", PySem.NameKind.cell), (PySem.Str.ofString "any", PySem.NameKind.globalImplicit), (PySem.Str.ofString "passages", PySem.NameKind.cell)], isGenerator := false, isCoroutine := false, more := [] }) (by decide +kernel)) (fun _ _ _ _ _ => (dg_name (vs := [3]) sc_is_warren.nd rfl (by first | exact Or.inl rfl | exact Or.inr rfl) (by decide))) (fun _ _ _ _ _ => dts_nil) (fun _ _ _ _ _ => (de_cmp (op_inA hr.u65) b_in (de_var 5) (de_var 3) (by rfl))))) da_nil))))) da_nil))))))))
theorem fn_is_warren {P : Program} {w : World} {K : PySem.W.Frag} {mg : Str → Option Value} {base : Heap} (D : Md K mg) {φ_is_from : F0} (G_is_from : FnOk P w K mg base CX0 1 D.a_is_from D.d_is_from ["thing", "low", "high"] (spF0 K EW0 false φ_is_from)) {φ_is_passage : F0} (G_is_passage : FnOk P w K mg base CX0 2 D.a_is_passage D.d_is_passage ["holes", "thing"] (spF0 K EW0 false φ_is_passage)) {φ : F0} (h : ∀ ds k x, φ ds k x → ds.length = 1 ∧ t_is_warren φ_is_from φ_is_passage (endF0 false k x) (envF0 ["thing", "holes", "passages", "one", "other", "hole"] ds)) : FnOk P w K mg base CX0 3 D.a_is_warren D.d_is_warren ["thing"] (spF0 K EW0 false φ) :=
  fn_F0 D.F_is_warren sc_is_warren rfl h fun cdv A outer s H E hr => der_is_warren D G_is_from G_is_passage cdv A outer s H E hr

def t_good_lot (φ_is_from : F0) : DS := (sSeq (sIf (dtOr (dtNot (dtTru (dIsi "tuple" (dVar 1)))) (dtNot (dtTru (dCall allF (daCons (dLc (diSeq (dVar 1)) (dgName 2) dtYes (dF0 φ_is_from (daCons (dVar 2) (daCons (dC (.int 0)) (daCons (dOp subD (dOp ixD (dVar 0) (dC (.int 0))) (dC (.int 1))) daNil)))) [2]) daNil))))) (sRet (dC (.bl false))) sNext) (sRet (dCall allF (daCons (dLc (diZip (dVar 1) (dSl (dVar 1) (dpS (dC (.int 1))) dpN)) (dgTup [3, 4]) dtYes (dOp ltD (dVar 3) (dVar 4)) [3, 4]) daNil))))
theorem der_good_lot {P : Program} {w : World} {K : PySem.W.Frag} {mg : Str → Option Value} {base : Heap} (D : Md K mg) {φ_is_from : F0} (G_is_from : FnOk P w K mg base CX0 1 D.a_is_from D.d_is_from ["thing", "low", "high"] (spF0 K EW0 false φ_is_from)) (cdv : Value) (A : Around) (outer : List PySem.Env) (s : Shared) (H : Hp) (E : XK)
    (hr : Room 1 (A.deeper (envOfC "good_lot" (defScope s_good_lot) s.heap.objs.size D.a_good_lot cdv))) : PSs (cxOf CX0 P w K mg base ["warren", "thing", "hole", "one", "other"] "good_lot" (defScope s_good_lot) D.a_good_lot cdv A outer s H E).nox (defBody s_good_lot) (upS K W0 false (t_good_lot φ_is_from)) :=
  (ds_cons (ds_if (dw_or (dt_not (dt_tru (de_isi (T := "tuple") (by decide) (by rfl) D.z_isinstance (pe_bltn (v := .ty "tuple") (by rfl) D.z_tuple (by decide +kernel) rfl) (de_var 1)))) (dw_or1 (dt_not (dt_tru (de_callB (cr_all (by rfl)) c_all (by rfl) D.z_all (by decide +kernel) (da_cons (de_F (de_lc (own := [("hole", 2)]) [2] rfl (by rfl) sc_good_lot.nd (di_seq (de_var 1)) (blkOk_by (N := ["warren", "thing", "hole", "one", "other"]) (sc := defScope s_good_lot) (by decide +kernel)) (fun _ _ _ _ _ => (dg_name (vs := [2]) sc_good_lot.nd rfl (by first | exact Or.inl rfl | exact Or.inr rfl) (by decide))) (fun _ _ _ _ _ => dts_nil) (fun _ _ _ _ _ => (de_f0 ((G_is_from).mono (by decide)) hr (by rfl) D.m_is_from D.F_is_from.kp D.b_is_from (da_cons (de_var 2) (da_cons de_int (da_cons (de_op op_sub b_sub (de_ix ix_seq b_ix (de_var 0) de_int (fun _ _ => rfl)) de_int) da_nil))))))) da_nil)))))).pt (ds_one (ds_ret de_bl)) ds_nil) (ds_one (ds_ret (de_callB (cr_all (by rfl)) c_all (by rfl) D.z_all (by decide +kernel) (da_cons (de_F (de_lc (own := [("one", 3), ("other", 4)]) [3, 4] rfl (by rfl) sc_good_lot.nd (di_zip (by rfl) D.z_zip (de_var 1) (de_sl (de_var 1) (dp_some de_int) dp_none)) (blkOk_by (N := ["warren", "thing", "hole", "one", "other"]) (sc := defScope s_good_lot) (by decide +kernel)) (fun _ _ _ _ _ => (dg_tup (by rfl) (dgs_cons (vs := [3, 4]) sc_good_lot.nd rfl (by first | exact Or.inl rfl | exact Or.inr rfl) (by decide) (dgs_cons (vs := [3, 4]) sc_good_lot.nd rfl (by first | exact Or.inl rfl | exact Or.inr rfl) (by decide) (dgs_nil (vs := [3, 4])))) (by rfl))) (fun _ _ _ _ _ => dts_nil) (fun _ _ _ _ _ => (de_cmp (op_ltA hr.u0) b_lt (de_var 3) (de_var 4) (by rfl))))) da_nil)))))
theorem fn_good_lot {P : Program} {w : World} {K : PySem.W.Frag} {mg : Str → Option Value} {base : Heap} (D : Md K mg) {φ_is_from : F0} (G_is_from : FnOk P w K mg base CX0 1 D.a_is_from D.d_is_from ["thing", "low", "high"] (spF0 K EW0 false φ_is_from)) {φ : F0} (h : ∀ ds k x, φ ds k x → ds.length = 2 ∧ t_good_lot φ_is_from (endF0 false k x) (envF0 ["warren", "thing", "hole", "one", "other"] ds)) : FnOk P w K mg base CX0 2 D.a_good_lot D.d_good_lot ["warren", "thing"] (spF0 K EW0 false φ) :=
  fn_F0 D.F_good_lot sc_good_lot rfl h fun cdv A outer s H E hr => der_good_lot D G_is_from cdv A outer s H E hr

def t_look_warren (φ_is_warren : F0) : DS := (sIf (dtNot (dtTru (dF0 φ_is_warren (daCons (dVar 0) daNil)))) sNever sNext)
theorem der_look_warren {P : Program} {w : World} {K : PySem.W.Frag} {mg : Str → Option Value} {base : Heap} (D : Md K mg) {φ_is_warren : F0} (G_is_warren : FnOk P w K mg base CX0 3 D.a_is_warren D.d_is_warren ["thing"] (spF0 K EW0 false φ_is_warren)) (cdv : Value) (A : Around) (outer : List PySem.Env) (s : Shared) (H : Hp) (E : XK)
    (hr : Room 3 (A.deeper (envOfC "look_warren" (defScope s_look_warren) s.heap.objs.size D.a_look_warren cdv))) : PSs (cxOf CX0 P w K mg base ["warren"] "look_warren" (defScope s_look_warren) D.a_look_warren cdv A outer s H E).nox (defBody s_look_warren) (upS K W0 false (t_look_warren φ_is_warren)) :=
  (ds_one (ds_if (dt_not (dt_tru (de_f0 ((G_is_warren).mono (by decide)) hr (by rfl) D.m_is_warren D.F_is_warren.kp D.b_is_warren (da_cons (de_var 0) da_nil)))) (ds_one ds_never) ds_nil))
theorem fn_look_warren {P : Program} {w : World} {K : PySem.W.Frag} {mg : Str → Option Value} {base : Heap} (D : Md K mg) {φ_is_warren : F0} (G_is_warren : FnOk P w K mg base CX0 3 D.a_is_warren D.d_is_warren ["thing"] (spF0 K EW0 false φ_is_warren)) {φ : F0} (h : ∀ ds k x, φ ds k x → ds.length = 1 ∧ t_look_warren φ_is_warren (endF0 false k x) (envF0 ["warren"] ds)) : FnOk P w K mg base CX0 4 D.a_look_warren D.d_look_warren ["warren"] (spF0 K EW0 false φ) :=
  fn_F0 D.F_look_warren sc_look_warren rfl h fun cdv A outer s H E hr => der_look_warren D G_is_warren cdv A outer s H E hr

def t_look_lookers (φ_is_from : F0) : DS := (sIf (dtNot (dtTru (dF0 φ_is_from (daCons (dVar 0) (daCons (dC (.int 1)) (daCons (dC (.int 4)) daNil)))))) sNever sNext)
theorem der_look_lookers {P : Program} {w : World} {K : PySem.W.Frag} {mg : Str → Option Value} {base : Heap} (D : Md K mg) {φ_is_from : F0} (G_is_from : FnOk P w K mg base CX0 1 D.a_is_from D.d_is_from ["thing", "low", "high"] (spF0 K EW0 false φ_is_from)) (cdv : Value) (A : Around) (outer : List PySem.Env) (s : Shared) (H : Hp) (E : XK)
    (hr : Room 1 (A.deeper (envOfC "look_lookers" (defScope s_look_lookers) s.heap.objs.size D.a_look_lookers cdv))) : PSs (cxOf CX0 P w K mg base ["lookers"] "look_lookers" (defScope s_look_lookers) D.a_look_lookers cdv A outer s H E).nox (defBody s_look_lookers) (upS K W0 false (t_look_lookers φ_is_from)) :=
  (ds_one (ds_if (dt_not (dt_tru (de_f0 ((G_is_from).mono (by decide)) hr (by rfl) D.m_is_from D.F_is_from.kp D.b_is_from (da_cons (de_var 0) (da_cons de_int (da_cons (de_globI (by rfl) D.c_LOOKERS) da_nil)))))) (ds_one ds_never) ds_nil))
theorem fn_look_lookers {P : Program} {w : World} {K : PySem.W.Frag} {mg : Str → Option Value} {base : Heap} (D : Md K mg) {φ_is_from : F0} (G_is_from : FnOk P w K mg base CX0 1 D.a_is_from D.d_is_from ["thing", "low", "high"] (spF0 K EW0 false φ_is_from)) {φ : F0} (h : ∀ ds k x, φ ds k x → ds.length = 1 ∧ t_look_lookers φ_is_from (endF0 false k x) (envF0 ["lookers"] ds)) : FnOk P w K mg base CX0 2 D.a_look_lookers D.d_look_lookers ["lookers"] (spF0 K EW0 false φ) :=
  fn_F0 D.F_look_lookers sc_look_lookers rfl h fun cdv A outer s H E hr => der_look_lookers D G_is_from cdv A outer s H E hr

def t_look_lot (φ_good_lot : F0) : DS := (sIf (dtNot (dtTru (dF0 φ_good_lot (daCons (dVar 0) (daCons (dVar 1) daNil))))) sNever sNext)
theorem der_look_lot {P : Program} {w : World} {K : PySem.W.Frag} {mg : Str → Option Value} {base : Heap} (D : Md K mg) {φ_good_lot : F0} (G_good_lot : FnOk P w K mg base CX0 2 D.a_good_lot D.d_good_lot ["warren", "thing"] (spF0 K EW0 false φ_good_lot)) (cdv : Value) (A : Around) (outer : List PySem.Env) (s : Shared) (H : Hp) (E : XK)
    (hr : Room 2 (A.deeper (envOfC "look_lot" (defScope s_look_lot) s.heap.objs.size D.a_look_lot cdv))) : PSs (cxOf CX0 P w K mg base ["warren", "lot"] "look_lot" (defScope s_look_lot) D.a_look_lot cdv A outer s H E).nox (defBody s_look_lot) (upS K W0 false (t_look_lot φ_good_lot)) :=
  (ds_one (ds_if (dt_not (dt_tru (de_f0 ((G_good_lot).mono (by decide)) hr (by rfl) D.m_good_lot D.F_good_lot.kp D.b_good_lot (da_cons (de_var 0) (da_cons (de_var 1) da_nil))))) (ds_one ds_never) ds_nil))
theorem fn_look_lot {P : Program} {w : World} {K : PySem.W.Frag} {mg : Str → Option Value} {base : Heap} (D : Md K mg) {φ_good_lot : F0} (G_good_lot : FnOk P w K mg base CX0 2 D.a_good_lot D.d_good_lot ["warren", "thing"] (spF0 K EW0 false φ_good_lot)) {φ : F0} (h : ∀ ds k x, φ ds k x → ds.length = 2 ∧ t_look_lot φ_good_lot (endF0 false k x) (envF0 ["warren", "lot"] ds)) : FnOk P w K mg base CX0 3 D.a_look_lot D.d_look_lot ["warren", "lot"] (spF0 K EW0 false φ) :=
  fn_F0 D.F_look_lot sc_look_lot rfl h fun cdv A outer s H E hr => der_look_lot D G_good_lot cdv A outer s H E hr

def t_next_to  : DS := (sRet (dCall sortF (daCons (dLc2 (diSeq (dOp ixD (dVar 0) (dC (.int 1)))) (dgName 2) dtYes (diSeq (dVar 2)) (dgName 3) (dtAnd (dtB (dOp inOp (dVar 1) (dVar 2))) (dtB (dOp neOp (dVar 3) (dVar 1)))) (dVar 3) [2, 3] [3]) daNil)))
theorem der_next_to {P : Program} {w : World} {K : PySem.W.Frag} {mg : Str → Option Value} {base : Heap} (D : Md K mg)  (cdv : Value) (A : Around) (outer : List PySem.Env) (s : Shared) (H : Hp) (E : XK)
    (hr : Room 0 (A.deeper (envOfC "next_to" (defScope s_next_to) s.heap.objs.size D.a_next_to cdv))) : PSs (cxOf CX0 P w K mg base ["warren", "hole", "pair", "one"] "next_to" (defScope s_next_to) D.a_next_to cdv A outer s H E).nox (defBody s_next_to) (upS K W0 false (t_next_to )) :=
  (ds_one (ds_ret (de_F (de_callBF (cr_sortL hr.u65) c_sortL (by rfl) D.z_sorted (by decide +kernel) (da_cons (de_F (de_lc2 (own := [("pair", 2), ("one", 3)]) [2, 3] [3] rfl (by decide) (by rfl) sc_next_to.nd (di_seq (de_ix ix_seq b_ix (de_var 0) de_int (fun _ _ => rfl))) (blkOk_by (N := ["warren", "hole", "pair", "one"]) (sc := defScope s_next_to) (by decide +kernel)) (fun _ _ _ _ _ => (dg_name (vs := [2, 3]) sc_next_to.nd rfl (by first | exact Or.inl rfl | exact Or.inr rfl) (by decide))) (fun _ _ _ _ _ => dts_nil) (fun _ _ _ _ _ => (di_seq (de_var 2))) (fun _ _ _ _ _ => (dg_name (vs := [3]) sc_next_to.nd rfl (by first | exact Or.inl rfl | exact Or.inr rfl) (by decide))) (fun _ _ _ _ _ => (dts_one (dw_and (dt_cmp (op_inA hr.u65) b_in (de_var 1) (de_var 2) (by rfl)) (dw_and1 (dt_cmp (op_neD hr.u64) b_ne (de_var 3) (de_var 1) (by rfl)))).pt)) (fun _ _ _ _ _ => (de_var 3)))) da_nil)))))
theorem fn_next_to {P : Program} {w : World} {K : PySem.W.Frag} {mg : Str → Option Value} {base : Heap} (D : Md K mg)  {φ : F0} (h : ∀ ds k x, φ ds k x → ds.length = 2 ∧ t_next_to  (endF0 false k x) (envF0 ["warren", "hole", "pair", "one"] ds)) : FnOk P w K mg base CX0 1 D.a_next_to D.d_next_to ["warren", "hole"] (spF0 K EW0 false φ) :=
  fn_F0 D.F_next_to sc_next_to rfl h fun cdv A outer s H E hr => der_next_to D  cdv A outer s H E hr

def t_later (φ_next_to : F0) : DS := (sSeq (sAsgO 3 (dC (.dI []))) (sSeq (sFor (diSeq (dVar 1)) (dgName 4) (sIf (dtB (dOp notInOp (dVar 4) (dVar 2))) (sFor (diSeq (dF0 φ_next_to (daCons (dVar 0) (daCons (dVar 4) daNil)))) (dgName 5) (sPutD 3 (dVar 5) (dC (.bl true)))) sNext)) (sRet (dPur (dCall tupF (daCons (dCall sortIF (daCons (dVar 3) daNil)) daNil))))))
theorem der_later {P : Program} {w : World} {K : PySem.W.Frag} {mg : Str → Option Value} {base : Heap} (D : Md K mg) {φ_next_to : F0} (G_next_to : FnOk P w K mg base CX0 1 D.a_next_to D.d_next_to ["warren", "hole"] (spF0 K EW0 false φ_next_to)) (cdv : Value) (A : Around) (outer : List PySem.Env) (s : Shared) (H : Hp) (E : XK)
    (hr : Room 1 (A.deeper (envOfC "later" (defScope s_later) s.heap.objs.size D.a_later cdv))) : PSs (cxOf CX0 P w K mg base ["warren", "where", "lot", "found", "hole", "one"] "later" (defScope s_later) D.a_later cdv A outer s H E).nox (defBody s_later) (upS K W0 false (t_later φ_next_to)) :=
  (ds_cons (ds_setO sc_later.nd rfl (by first | exact Or.inl rfl | exact Or.inr rfl) de_newI) (ds_cons (ds_for (vs := [4]) PassesOwn.never (by rfl) (di_seq (de_var 1)) (dg_name (vs := [4]) sc_later.nd rfl (by first | exact Or.inl rfl | exact Or.inr rfl) (by decide)) (ds_one (ds_if (dt_cmp (op_notInA hr.u65) b_notin (de_var 4) (de_var 2) (by rfl)) (ds_one (ds_for (vs := [5]) PassesOwn.never (by rfl) (di_seq (de_f0 ((G_next_to).mono (by decide)) hr (by rfl) D.m_next_to D.F_next_to.kp D.b_next_to (da_cons (de_var 0) (da_cons (de_var 4) da_nil)))) (dg_name (vs := [5]) sc_later.nd rfl (by first | exact Or.inl rfl | exact Or.inr rfl) (by decide)) (ds_one (ds_putD (ps_dput hr.u1 (pv 3) (de_var 5) de_bl (by rfl)))))) ds_nil))) (ds_one (ds_ret (de_pur (de_callT call_tuple_of c_tuple (by rfl) D.z_tuple (by decide +kernel) (da_cons (de_F (de_callBF (call_sortedDI (by rfl)) c_sortI (by rfl) D.z_sorted (by decide +kernel) (da_cons (de_var 3) da_nil))) da_nil)))))))
theorem fn_later {P : Program} {w : World} {K : PySem.W.Frag} {mg : Str → Option Value} {base : Heap} (D : Md K mg) {φ_next_to : F0} (G_next_to : FnOk P w K mg base CX0 1 D.a_next_to D.d_next_to ["warren", "hole"] (spF0 K EW0 false φ_next_to)) {φ : F0} (h : ∀ ds k x, φ ds k x → ds.length = 3 ∧ t_later φ_next_to (endF0 false k x) (envF0 ["warren", "where", "lot", "found", "hole", "one"] ds)) : FnOk P w K mg base CX0 2 D.a_later D.d_later ["warren", "where", "lot"] (spF0 K EW0 false φ) :=
  fn_F0 D.F_later sc_later rfl h fun cdv A outer s H E hr => der_later D G_next_to cdv A outer s H E hr

def t_lots_of  : DS := (sSeq (sAsgO 2 (dLst (daCons (dTup daNil) daNil))) (sSeq (sFor (diSeq (dVar 0)) (dgName 3) (sAugL 2 (dPurF (dLc (diSeq (dVar 2)) (dgName 4) (dtB (dOp ltD (dCall lenF (daCons (dVar 4) daNil)) (dVar 1))) (dOp addA (dVar 4) (dTup (daCons (dVar 3) daNil))) [4])))) (sRet (dPurF (dCall sortF (daCons (dVar 2) daNil))))))
theorem der_lots_of {P : Program} {w : World} {K : PySem.W.Frag} {mg : Str → Option Value} {base : Heap} (D : Md K mg)  (cdv : Value) (A : Around) (outer : List PySem.Env) (s : Shared) (H : Hp) (E : XK)
    (hr : Room 0 (A.deeper (envOfC "lots_of" (defScope s_lots_of) s.heap.objs.size D.a_lots_of cdv))) : PSs (cxOf CX0 P w K mg base ["holes", "most", "found", "hole", "lot"] "lots_of" (defScope s_lots_of) D.a_lots_of cdv A outer s H E).nox (defBody s_lots_of) (upS K W0 false (t_lots_of )) :=
  (ds_cons (ds_setO sc_lots_of.nd rfl (by first | exact Or.inl rfl | exact Or.inr rfl) (de_lst (da_cons (de_tup da_nil) da_nil))) (ds_cons (ds_for (vs := [3]) PassesOwn.never (by rfl) (di_seq (de_var 0)) (dg_name (vs := [3]) sc_lots_of.nd rfl (by first | exact Or.inl rfl | exact Or.inr rfl) (by decide)) (ds_one (ds_augL (ps_aug sc_lots_of.nd rfl (by first | exact Or.inl rfl | exact Or.inr rfl) (de_purF (de_lc (own := [("lot", 4)]) [4] rfl (by rfl) sc_lots_of.nd (di_seq (de_var 2)) (blkOk_by (N := ["holes", "most", "found", "hole", "lot"]) (sc := defScope s_lots_of) (by decide +kernel)) (fun _ _ _ _ _ => (dg_name (vs := [4]) sc_lots_of.nd rfl (by first | exact Or.inl rfl | exact Or.inr rfl) (by decide))) (fun _ _ _ _ _ => (dts_one (dt_cmp (op_ltA hr.u0) b_lt (de_callB call_len_seq c_len (by rfl) D.z_len (by decide +kernel) (da_cons (de_var 4) da_nil)) (de_var 1) (by rfl)))) (fun _ _ _ _ _ => (de_op op_addA b_addA (de_var 4) (de_tup (da_cons (de_var 3) da_nil)))))) iop_ext)))) (ds_one (ds_ret (de_F (de_purF (de_callBF (cr_sortL hr.u65) c_sortL (by rfl) D.z_sorted (by decide +kernel) (da_cons (de_var 2) da_nil))))))))
theorem fn_lots_of {P : Program} {w : World} {K : PySem.W.Frag} {mg : Str → Option Value} {base : Heap} (D : Md K mg)  {φ : F0} (h : ∀ ds k x, φ ds k x → ds.length = 2 ∧ t_lots_of  (endF0 false k x) (envF0 ["holes", "most", "found", "hole", "lot"] ds)) : FnOk P w K mg base CX0 1 D.a_lots_of D.d_lots_of ["holes", "most"] (spF0 K EW0 false φ) :=
  fn_F0 D.F_lots_of sc_lots_of rfl h fun cdv A outer s H E hr => der_lots_of D  cdv A outer s H E hr

def t_best_lots (φ_lots_of : F0) : DS := (sSeq (sIf (dtB (dOp leD (dCall lenF (daCons (dVar 0) daNil)) (dVar 1))) (sRet (dLst (daCons (dVar 0) daNil))) sNext) (sRet (dLc (diSeq (dF0 φ_lots_of (daCons (dVar 0) (daCons (dVar 1) daNil)))) (dgName 2) (dtB (dOp eqOp (dCall lenF (daCons (dVar 2) daNil)) (dVar 1))) (dVar 2) [2])))
theorem der_best_lots {P : Program} {w : World} {K : PySem.W.Frag} {mg : Str → Option Value} {base : Heap} (D : Md K mg) {φ_lots_of : F0} (G_lots_of : FnOk P w K mg base CX0 1 D.a_lots_of D.d_lots_of ["holes", "most"] (spF0 K EW0 false φ_lots_of)) (cdv : Value) (A : Around) (outer : List PySem.Env) (s : Shared) (H : Hp) (E : XK)
    (hr : Room 1 (A.deeper (envOfC "best_lots" (defScope s_best_lots) s.heap.objs.size D.a_best_lots cdv))) : PSs (cxOf CX0 P w K mg base ["where", "lookers", "lot"] "best_lots" (defScope s_best_lots) D.a_best_lots cdv A outer s H E).nox (defBody s_best_lots) (upS K W0 false (t_best_lots φ_lots_of)) :=
  (ds_cons (ds_if (dt_cmp op_le b_le (de_callB call_len_seq c_len (by rfl) D.z_len (by decide +kernel) (da_cons (de_var 0) da_nil)) (de_var 1) (by rfl)) (ds_one (ds_ret (de_F (de_lst (da_cons (de_var 0) da_nil))))) ds_nil) (ds_one (ds_ret (de_F (de_lc (own := [("lot", 2)]) [2] rfl (by rfl) sc_best_lots.nd (di_seq (de_f0 ((G_lots_of).mono (by decide)) hr (by rfl) D.m_lots_of D.F_lots_of.kp D.b_lots_of (da_cons (de_var 0) (da_cons (de_var 1) da_nil)))) (blkOk_by (N := ["where", "lookers", "lot"]) (sc := defScope s_best_lots) (by decide +kernel)) (fun _ _ _ _ _ => (dg_name (vs := [2]) sc_best_lots.nd rfl (by first | exact Or.inl rfl | exact Or.inr rfl) (by decide))) (fun _ _ _ _ _ => (dts_one (dt_cmp (op_eqD hr.u64) b_eq (de_callB call_len_seq c_len (by rfl) D.z_len (by decide +kernel) (da_cons (de_var 2) da_nil)) (de_var 1) (by rfl)))) (fun _ _ _ _ _ => (de_var 2)))))))
theorem fn_best_lots {P : Program} {w : World} {K : PySem.W.Frag} {mg : Str → Option Value} {base : Heap} (D : Md K mg) {φ_lots_of : F0} (G_lots_of : FnOk P w K mg base CX0 1 D.a_lots_of D.d_lots_of ["holes", "most"] (spF0 K EW0 false φ_lots_of)) {φ : F0} (h : ∀ ds k x, φ ds k x → ds.length = 2 ∧ t_best_lots φ_lots_of (endF0 false k x) (envF0 ["where", "lookers", "lot"] ds)) : FnOk P w K mg base CX0 2 D.a_best_lots D.d_best_lots ["where", "lookers"] (spF0 K EW0 false φ) :=
  fn_F0 D.F_best_lots sc_best_lots rfl h fun cdv A outer s H E hr => der_best_lots D G_lots_of cdv A outer s H E hr

def t_days_table (φ_lots_of : F0) (φ_best_lots : F0) (φ_later : F0) : DS := (sSeq (sAsgO 2 (dC (.dT []))) (sSeq (sFor (diSeq (dF0 φ_lots_of (daCons (dLstRg (dOp ixD (dVar 0) (dC (.int 0)))) (daCons (dOp ixD (dVar 0) (dC (.int 0))) daNil)))) (dgName 3) (sPutD 2 (dVar 3) (dSortSet (dLc (diSeq (dF0 φ_best_lots (daCons (dVar 3) (daCons (dVar 1) daNil)))) (dgName 8) dtYes (dF0 φ_later (daCons (dVar 0) (daCons (dVar 3) (daCons (dVar 8) daNil)))) [8])))) (sSeq (sPar [true, false, false] [4, 5, 6] (daCons (dDict1 (dTup daNil) (dC (.int 0))) (daCons (dC (.int 0)) (daCons (dC (.bl true)) daNil)))) (sSeq (sWhile (dtTru (dVar 6)) (sSeq (sAugI 5 (dC (.int 1))) (sSeq (sAsg 7 (dPurF (dLcK 2 (dgName 3) (dtAnd (dtB (dOp notInDict (dVar 3) (dVar 4))) (dtTru (dCall anyF (daCons (dLc (diSeq (dOp itemDict (dVar 2) (dVar 3))) (dgName 9) dtYes (dOp inDict (dVar 9) (dVar 4)) [9]) daNil)))) (dVar 3) [3]))) (sSeq (sFor (diSeq (dVar 7)) (dgName 3) (sPutD 4 (dVar 3) (dVar 5))) (sAsg 6 (dOp gtD (dCall lenF (daCons (dVar 7) daNil)) (dC (.int 0)))))))) (sRetOwn 4)))))
theorem der_days_table {P : Program} {w : World} {K : PySem.W.Frag} {mg : Str → Option Value} {base : Heap} (D : Md K mg) {φ_lots_of : F0} (G_lots_of : FnOk P w K mg base CX0 1 D.a_lots_of D.d_lots_of ["holes", "most"] (spF0 K EW0 false φ_lots_of)) {φ_best_lots : F0} (G_best_lots : FnOk P w K mg base CX0 2 D.a_best_lots D.d_best_lots ["where", "lookers"] (spF0 K EW0 false φ_best_lots)) {φ_later : F0} (G_later : FnOk P w K mg base CX0 2 D.a_later D.d_later ["warren", "where", "lot"] (spF0 K EW0 false φ_later)) (cdv : Value) (A : Around) (outer : List PySem.Env) (s : Shared) (H : Hp) (E : XK)
    (hr : Room 2 (A.deeper (envOfC "days_table" (defScope s_days_table) s.heap.objs.size D.a_days_table cdv))) : PSs (cxOf CX0 P w K mg base ["warren", "lookers", "rows", "where", "found", "days", "going", "new", "lot", "one"] "days_table" (defScope s_days_table) D.a_days_table cdv A outer s H E).nox (defBody s_days_table) (upS K W0 false (t_days_table φ_lots_of φ_best_lots φ_later)) :=
  (ds_cons (ds_setO sc_days_table.nd rfl (by first | exact Or.inl rfl | exact Or.inr rfl) de_newT) (ds_cons (ds_for (vs := [3]) PassesOwn.never (by rfl) (di_seq (de_f0 ((G_lots_of).mono (by decide)) hr (by rfl) D.m_lots_of D.F_lots_of.kp D.b_lots_of (da_cons (de_F (de_lstRg (by rfl) (by rfl) D.z_list (by rfl) D.z_range (de_ix ix_seq b_ix (de_var 0) de_int (fun _ _ => rfl)))) (da_cons (de_ix ix_seq b_ix (de_var 0) de_int (fun _ _ => rfl)) da_nil)))) (dg_name (vs := [3]) sc_days_table.nd rfl (by first | exact Or.inl rfl | exact Or.inr rfl) (by decide)) (ds_one (ds_putD (ps_dput hr.u1 (pv 2) (de_var 3) (de_F (de_sortSet (by rfl) hr.u65 (by rfl) D.z_sorted (by rfl) D.z_set (de_F (de_lc (own := [("lot", 8)]) [8] rfl (by rfl) sc_days_table.nd (di_seq (de_f0 ((G_best_lots).mono (by decide)) hr (by rfl) D.m_best_lots D.F_best_lots.kp D.b_best_lots (da_cons (de_var 3) (da_cons (de_var 1) da_nil)))) (blkOk_by (N := ["warren", "lookers", "rows", "where", "found", "days", "going", "new", "lot", "one"]) (sc := defScope s_days_table) (by decide +kernel)) (fun _ _ _ _ _ => (dg_name (vs := [8]) sc_days_table.nd rfl (by first | exact Or.inl rfl | exact Or.inr rfl) (by decide))) (fun _ _ _ _ _ => dts_nil) (fun _ _ _ _ _ => (de_f0 ((G_later).mono (by decide)) hr (by rfl) D.m_later D.F_later.kp D.b_later (da_cons (de_var 0) (da_cons (de_var 3) (da_cons (de_var 8) da_nil))))))))) (by rfl))))) (ds_cons (ds_parT (ms := [true, false, false]) (is := [4, 5, 6]) (n := 3) rfl rfl (by decide) (ps_asg (pe_tup (dm_own (de_dict1 hr.u1 (de_tup da_nil) de_int (fun _ _ _ z => z)) (dm_frz de_int (dm_frz de_bl dm_nil)))) (pg_tup (by rfl) (pgs_cons (pg_name sc_days_table.nd rfl (by first | exact Or.inl rfl | exact Or.inr rfl)) (pgs_cons (pg_name sc_days_table.nd rfl (by first | exact Or.inl rfl | exact Or.inr rfl)) (pgs_cons (pg_name sc_days_table.nd rfl (by first | exact Or.inl rfl | exact Or.inr rfl)) pgs_nil)))))) (ds_cons (ds_while PassesOwn.never (dt_tru (de_var 6)) (ds_cons (ds_augI (ps_aug sc_days_table.nd rfl (by first | exact Or.inl rfl | exact Or.inr rfl) de_int ip_add)) (ds_cons (ds_setLcK (j := 2) (own := [("where", 3)]) [3] rfl (by rfl) sc_days_table.nd rfl rfl (sw_true rfl rfl rfl (by decide +kernel)) (pv 2) (blkOk_by (N := ["warren", "lookers", "rows", "where", "found", "days", "going", "new", "lot", "one"]) (sc := defScope s_days_table) (by decide +kernel)) (fun _ _ _ _ _ => (dg_name (vs := [3]) sc_days_table.nd rfl (by first | exact Or.inl rfl | exact Or.inr rfl) (by decide))) (fun _ _ _ _ _ => (dts_one (dw_and (dt_dnotin hr.u1 (de_var 3) (de_var 4)) (dw_and1 (dt_tru (de_callB (cr_any (by rfl)) c_any (by rfl) D.z_any (by decide +kernel) (da_cons (de_F (de_lc (own := [("one", 9)]) [9] rfl (by rfl) sc_days_table.nd (di_seq (de_item hr.u1 (de_var 2) (de_var 3) (fun _ _ => rfl))) (blkOk_by (N := ["warren", "lookers", "rows", "where", "found", "days", "going", "new", "lot", "one"]) (sc := { kind := PySem.ScopeKind.function, names := [(PySem.Str.ofString ".0", PySem.NameKind.local), (PySem.Str.ofString "where", PySem.NameKind.local), (PySem.Str.ofString "any", PySem.NameKind.globalImplicit), (PySem.Str.ofString "found", PySem.NameKind.cell), (PySem.Str.ofString "rows", PySem.NameKind.cell)], isGenerator := false, isCoroutine := false, more := [] }) (by decide +kernel)) (fun _ _ _ _ _ => (dg_name (vs := [9]) sc_days_table.nd rfl (by first | exact Or.inl rfl | exact Or.inr rfl) (by decide))) (fun _ _ _ _ _ => dts_nil) (fun _ _ _ _ _ => (de_din hr.u1 (de_var 9) (de_var 4))))) da_nil))))).pt)) (fun _ _ _ _ _ => (de_var 3))) (ds_cons (ds_for (vs := [3]) PassesOwn.never (by rfl) (di_seq (de_var 7)) (dg_name (vs := [3]) sc_days_table.nd rfl (by first | exact Or.inl rfl | exact Or.inr rfl) (by decide)) (ds_one (ds_putD (ps_dput hr.u1 (pv 4) (de_var 3) (de_var 5) (by rfl))))) (ds_one (ds_set sc_days_table.nd rfl (by first | exact Or.inl rfl | exact Or.inr rfl) (de_cmp op_gt b_gt (de_callB call_len_seq c_len (by rfl) D.z_len (by decide +kernel) (da_cons (de_var 7) da_nil)) de_int (by rfl)))))))) (ds_one (ds_retOwn 4))))))
theorem fn_days_table {P : Program} {w : World} {K : PySem.W.Frag} {mg : Str → Option Value} {base : Heap} (D : Md K mg) {φ_lots_of : F0} (G_lots_of : FnOk P w K mg base CX0 1 D.a_lots_of D.d_lots_of ["holes", "most"] (spF0 K EW0 false φ_lots_of)) {φ_best_lots : F0} (G_best_lots : FnOk P w K mg base CX0 2 D.a_best_lots D.d_best_lots ["where", "lookers"] (spF0 K EW0 false φ_best_lots)) {φ_later : F0} (G_later : FnOk P w K mg base CX0 2 D.a_later D.d_later ["warren", "where", "lot"] (spF0 K EW0 false φ_later)) {φ : F0} (h : ∀ ds k x, φ ds k x → ds.length = 2 ∧ t_days_table φ_lots_of φ_best_lots φ_later (endF0 false k x) (envF0 ["warren", "lookers", "rows", "where", "found", "days", "going", "new", "lot", "one"] ds)) : FnOk P w K mg base CX0 3 D.a_days_table D.d_days_table ["warren", "lookers"] (spF0 K EW0 false φ) :=
  fn_F0 D.F_days_table sc_days_table rfl h fun cdv A outer s H E hr => der_days_table D G_lots_of G_best_lots G_later cdv A outer s H E hr

def t_is_plan (φ_good_lot : F0) : DS := (sSeq (sIf (dtOr (dtNot (dtTru (dIsi "list" (dVar 2)))) (dtB (dOp gtD (dCall lenF (daCons (dVar 2) daNil)) (dC (.int 1023))))) (sRet (dC (.bl false))) sNext) (sRet (dCall allF (daCons (dLc (diSeq (dVar 2)) (dgName 3) dtYes (dAndV (dF0 φ_good_lot (daCons (dVar 0) (daCons (dVar 3) daNil))) (dOp leD (dCall lenF (daCons (dVar 3) daNil)) (dVar 1))) [3]) daNil))))
theorem der_is_plan {P : Program} {w : World} {K : PySem.W.Frag} {mg : Str → Option Value} {base : Heap} (D : Md K mg) {φ_good_lot : F0} (G_good_lot : FnOk P w K mg base CX0 2 D.a_good_lot D.d_good_lot ["warren", "thing"] (spF0 K EW0 false φ_good_lot)) (cdv : Value) (A : Around) (outer : List PySem.Env) (s : Shared) (H : Hp) (E : XK)
    (hr : Room 2 (A.deeper (envOfC "is_plan" (defScope s_is_plan) s.heap.objs.size D.a_is_plan cdv))) : PSs (cxOf CX0 P w K mg base ["warren", "lookers", "thing", "lot"] "is_plan" (defScope s_is_plan) D.a_is_plan cdv A outer s H E).nox (defBody s_is_plan) (upS K W0 false (t_is_plan φ_good_lot)) :=
  (ds_cons (ds_if (dw_or (dt_not (dt_tru (de_isi (T := "list") (by decide) (by rfl) D.z_isinstance (pe_bltn (v := .ty "list") (by rfl) D.z_list (by decide +kernel) rfl) (de_var 2)))) (dw_or1 (dt_cmp op_gt b_gt (de_callB call_len_seq c_len (by rfl) D.z_len (by decide +kernel) (da_cons (de_var 2) da_nil)) (de_globI (by rfl) D.c_DAYS) (by rfl)))).pt (ds_one (ds_ret de_bl)) ds_nil) (ds_one (ds_ret (de_callB (cr_all (by rfl)) c_all (by rfl) D.z_all (by decide +kernel) (da_cons (de_F (de_lc (own := [("lot", 3)]) [3] rfl (by rfl) sc_is_plan.nd (di_seq (de_var 2)) (blkOk_by (N := ["warren", "lookers", "thing", "lot"]) (sc := defScope s_is_plan) (by decide +kernel)) (fun _ _ _ _ _ => (dg_name (vs := [3]) sc_is_plan.nd rfl (by first | exact Or.inl rfl | exact Or.inr rfl) (by decide))) (fun _ _ _ _ _ => dts_nil) (fun _ _ _ _ _ => (de_and (de_f0 ((G_good_lot).mono (by decide)) hr (by rfl) D.m_good_lot D.F_good_lot.kp D.b_good_lot (da_cons (de_var 0) (da_cons (de_var 3) da_nil))) (de_one (de_cmp op_le b_le (de_callB call_len_seq c_len (by rfl) D.z_len (by decide +kernel) (da_cons (de_var 3) da_nil)) (de_var 1) (by rfl))))))) da_nil)))))
theorem fn_is_plan {P : Program} {w : World} {K : PySem.W.Frag} {mg : Str → Option Value} {base : Heap} (D : Md K mg) {φ_good_lot : F0} (G_good_lot : FnOk P w K mg base CX0 2 D.a_good_lot D.d_good_lot ["warren", "thing"] (spF0 K EW0 false φ_good_lot)) {φ : F0} (h : ∀ ds k x, φ ds k x → ds.length = 3 ∧ t_is_plan φ_good_lot (endF0 false k x) (envF0 ["warren", "lookers", "thing", "lot"] ds)) : FnOk P w K mg base CX0 3 D.a_is_plan D.d_is_plan ["warren", "lookers", "thing"] (spF0 K EW0 false φ) :=
  fn_F0 D.F_is_plan sc_is_plan rfl h fun cdv A outer s H E hr => der_is_plan D G_good_lot cdv A outer s H E hr

def t_look_all (φ_look_warren : F0) (φ_look_lookers : F0) (φ_look_lot : F0) : DS := (sSeq (sExpr (dF0 φ_look_warren (daCons (dVar 0) daNil))) (sSeq (sExpr (dF0 φ_look_lookers (daCons (dVar 1) daNil))) (sExpr (dF0 φ_look_lot (daCons (dVar 0) (daCons (dVar 2) daNil))))))
theorem der_look_all {P : Program} {w : World} {K : PySem.W.Frag} {mg : Str → Option Value} {base : Heap} (D : Md K mg) {φ_look_warren : F0} (G_look_warren : FnOk P w K mg base CX0 4 D.a_look_warren D.d_look_warren ["warren"] (spF0 K EW0 false φ_look_warren)) {φ_look_lookers : F0} (G_look_lookers : FnOk P w K mg base CX0 2 D.a_look_lookers D.d_look_lookers ["lookers"] (spF0 K EW0 false φ_look_lookers)) {φ_look_lot : F0} (G_look_lot : FnOk P w K mg base CX0 3 D.a_look_lot D.d_look_lot ["warren", "lot"] (spF0 K EW0 false φ_look_lot)) (cdv : Value) (A : Around) (outer : List PySem.Env) (s : Shared) (H : Hp) (E : XK)
    (hr : Room 4 (A.deeper (envOfC "look_all" (defScope s_look_all) s.heap.objs.size D.a_look_all cdv))) : PSs (cxOf CX0 P w K mg base ["warren", "lookers", "where"] "look_all" (defScope s_look_all) D.a_look_all cdv A outer s H E).nox (defBody s_look_all) (upS K W0 false (t_look_all φ_look_warren φ_look_lookers φ_look_lot)) :=
  (ds_cons (ds_expr (de_f0 ((G_look_warren).mono (by decide)) hr (by rfl) D.m_look_warren D.F_look_warren.kp D.b_look_warren (da_cons (de_var 0) da_nil))) (ds_cons (ds_expr (de_f0 ((G_look_lookers).mono (by decide)) hr (by rfl) D.m_look_lookers D.F_look_lookers.kp D.b_look_lookers (da_cons (de_var 1) da_nil))) (ds_one (ds_expr (de_f0 ((G_look_lot).mono (by decide)) hr (by rfl) D.m_look_lot D.F_look_lot.kp D.b_look_lot (da_cons (de_var 0) (da_cons (de_var 2) da_nil)))))))
theorem fn_look_all {P : Program} {w : World} {K : PySem.W.Frag} {mg : Str → Option Value} {base : Heap} (D : Md K mg) {φ_look_warren : F0} (G_look_warren : FnOk P w K mg base CX0 4 D.a_look_warren D.d_look_warren ["warren"] (spF0 K EW0 false φ_look_warren)) {φ_look_lookers : F0} (G_look_lookers : FnOk P w K mg base CX0 2 D.a_look_lookers D.d_look_lookers ["lookers"] (spF0 K EW0 false φ_look_lookers)) {φ_look_lot : F0} (G_look_lot : FnOk P w K mg base CX0 3 D.a_look_lot D.d_look_lot ["warren", "lot"] (spF0 K EW0 false φ_look_lot)) {φ : F0} (h : ∀ ds k x, φ ds k x → ds.length = 3 ∧ t_look_all φ_look_warren φ_look_lookers φ_look_lot (endF0 false k x) (envF0 ["warren", "lookers", "where"] ds)) : FnOk P w K mg base CX0 5 D.a_look_all D.d_look_all ["warren", "lookers", "where"] (spF0 K EW0 false φ) :=
  fn_F0 D.F_look_all sc_look_all rfl h fun cdv A outer s H E hr => der_look_all D G_look_warren G_look_lookers G_look_lot cdv A outer s H E hr

def t_surely (φ_look_all : F0) (φ_is_plan : F0) (φ_later : F0) : DS := (sSeq (sExpr (dF0 φ_look_all (daCons (dVar 0) (daCons (dVar 1) (daCons (dVar 2) daNil))))) (sSeq (sIf (dtNot (dtTru (dF0 φ_is_plan (daCons (dVar 0) (daCons (dVar 1) (daCons (dVar 3) daNil)))))) (sRet (dC (.bl false))) sNext) (sSeq (sFor (diSeq (dVar 3)) (dgName 4) (sAsg 2 (dF0 φ_later (daCons (dVar 0) (daCons (dVar 2) (daCons (dVar 4) daNil)))))) (sRet (dOp eqOp (dVar 2) (dTup daNil))))))
theorem der_surely {P : Program} {w : World} {K : PySem.W.Frag} {mg : Str → Option Value} {base : Heap} (D : Md K mg) {φ_look_all : F0} (G_look_all : FnOk P w K mg base CX0 5 D.a_look_all D.d_look_all ["warren", "lookers", "where"] (spF0 K EW0 false φ_look_all)) {φ_is_plan : F0} (G_is_plan : FnOk P w K mg base CX0 3 D.a_is_plan D.d_is_plan ["warren", "lookers", "thing"] (spF0 K EW0 false φ_is_plan)) {φ_later : F0} (G_later : FnOk P w K mg base CX0 2 D.a_later D.d_later ["warren", "where", "lot"] (spF0 K EW0 false φ_later)) (cdv : Value) (A : Around) (outer : List PySem.Env) (s : Shared) (H : Hp) (E : XK)
    (hr : Room 5 (A.deeper (envOfC "surely" (defScope s_surely) s.heap.objs.size D.a_surely cdv))) : PSs (cxOf CX0 P w K mg base ["warren", "lookers", "where", "thing", "lot"] "surely" (defScope s_surely) D.a_surely cdv A outer s H E).nox (defBody s_surely) (upS K W0 false (t_surely φ_look_all φ_is_plan φ_later)) :=
  (ds_cons (ds_expr (de_f0 ((G_look_all).mono (by decide)) hr (by rfl) D.m_look_all D.F_look_all.kp D.b_look_all (da_cons (de_var 0) (da_cons (de_var 1) (da_cons (de_var 2) da_nil))))) (ds_cons (ds_if (dt_not (dt_tru (de_f0 ((G_is_plan).mono (by decide)) hr (by rfl) D.m_is_plan D.F_is_plan.kp D.b_is_plan (da_cons (de_var 0) (da_cons (de_var 1) (da_cons (de_var 3) da_nil)))))) (ds_one (ds_ret de_bl)) ds_nil) (ds_cons (ds_for (vs := [4]) PassesOwn.never (by rfl) (di_seq (de_var 3)) (dg_name (vs := [4]) sc_surely.nd rfl (by first | exact Or.inl rfl | exact Or.inr rfl) (by decide)) (ds_one (ds_set sc_surely.nd rfl (by first | exact Or.inl rfl | exact Or.inr rfl) (de_f0 ((G_later).mono (by decide)) hr (by rfl) D.m_later D.F_later.kp D.b_later (da_cons (de_var 0) (da_cons (de_var 2) (da_cons (de_var 4) da_nil))))))) (ds_one (ds_ret (de_cmp (op_eqD hr.u64) b_eq (de_var 2) (de_tup da_nil) (by rfl)))))))
theorem fn_surely {P : Program} {w : World} {K : PySem.W.Frag} {mg : Str → Option Value} {base : Heap} (D : Md K mg) {φ_look_all : F0} (G_look_all : FnOk P w K mg base CX0 5 D.a_look_all D.d_look_all ["warren", "lookers", "where"] (spF0 K EW0 false φ_look_all)) {φ_is_plan : F0} (G_is_plan : FnOk P w K mg base CX0 3 D.a_is_plan D.d_is_plan ["warren", "lookers", "thing"] (spF0 K EW0 false φ_is_plan)) {φ_later : F0} (G_later : FnOk P w K mg base CX0 2 D.a_later D.d_later ["warren", "where", "lot"] (spF0 K EW0 false φ_later)) {φ : F0} (h : ∀ ds k x, φ ds k x → ds.length = 4 ∧ t_surely φ_look_all φ_is_plan φ_later (endF0 false k x) (envF0 ["warren", "lookers", "where", "thing", "lot"] ds)) : FnOk P w K mg base CX0 6 D.a_surely D.d_surely ["warren", "lookers", "where", "thing"] (spF0 K EW0 false φ) :=
  fn_F0 D.F_surely sc_surely rfl h fun cdv A outer s H E hr => der_surely D G_look_all G_is_plan G_later cdv A outer s H E hr

def t_fewest_days (φ_look_all : F0) (φ_days_table : F0) : DS := (sSeq (sExpr (dF0 φ_look_all (daCons (dVar 0) (daCons (dVar 1) (daCons (dVar 2) daNil))))) (sRet (dGetA (dF0 φ_days_table (daCons (dVar 0) (daCons (dVar 1) daNil))) (dVar 2))))
theorem der_fewest_days {P : Program} {w : World} {K : PySem.W.Frag} {mg : Str → Option Value} {base : Heap} (D : Md K mg) {φ_look_all : F0} (G_look_all : FnOk P w K mg base CX0 5 D.a_look_all D.d_look_all ["warren", "lookers", "where"] (spF0 K EW0 false φ_look_all)) {φ_days_table : F0} (G_days_table : FnOk P w K mg base CX0 3 D.a_days_table D.d_days_table ["warren", "lookers"] (spF0 K EW0 false φ_days_table)) (cdv : Value) (A : Around) (outer : List PySem.Env) (s : Shared) (H : Hp) (E : XK)
    (hr : Room 5 (A.deeper (envOfC "fewest_days" (defScope s_fewest_days) s.heap.objs.size D.a_fewest_days cdv))) : PSs (cxOf CX0 P w K mg base ["warren", "lookers", "where"] "fewest_days" (defScope s_fewest_days) D.a_fewest_days cdv A outer s H E).nox (defBody s_fewest_days) (upS K W0 false (t_fewest_days φ_look_all φ_days_table)) :=
  (ds_cons (ds_expr (de_f0 ((G_look_all).mono (by decide)) hr (by rfl) D.m_look_all D.F_look_all.kp D.b_look_all (da_cons (de_var 0) (da_cons (de_var 1) (da_cons (de_var 2) da_nil))))) (ds_one (ds_ret (de_get1 hr.u1 (de_f0 ((G_days_table).mono (by decide)) hr (by rfl) D.m_days_table D.F_days_table.kp D.b_days_table (da_cons (de_var 0) (da_cons (de_var 1) da_nil))) (de_var 2) ⟨rfl, rfl, rfl, rfl⟩))))
theorem fn_fewest_days {P : Program} {w : World} {K : PySem.W.Frag} {mg : Str → Option Value} {base : Heap} (D : Md K mg) {φ_look_all : F0} (G_look_all : FnOk P w K mg base CX0 5 D.a_look_all D.d_look_all ["warren", "lookers", "where"] (spF0 K EW0 false φ_look_all)) {φ_days_table : F0} (G_days_table : FnOk P w K mg base CX0 3 D.a_days_table D.d_days_table ["warren", "lookers"] (spF0 K EW0 false φ_days_table)) {φ : F0} (h : ∀ ds k x, φ ds k x → ds.length = 3 ∧ t_fewest_days φ_look_all φ_days_table (endF0 false k x) (envF0 ["warren", "lookers", "where"] ds)) : FnOk P w K mg base CX0 6 D.a_fewest_days D.d_fewest_days ["warren", "lookers", "where"] (spF0 K EW0 false φ) :=
  fn_F0 D.F_fewest_days sc_fewest_days rfl h fun cdv A outer s H E hr => der_fewest_days D G_look_all G_days_table cdv A outer s H E hr

def t_plan (φ_look_all : F0) (φ_days_table : F0) (φ_best_lots : F0) (φ_later : F0) : DS := (sSeq (sExpr (dF0 φ_look_all (daCons (dVar 0) (daCons (dVar 1) (daCons (dVar 2) daNil))))) (sSeq (sPar [false, true] [3, 4] (daCons (dF0 φ_days_table (daCons (dVar 0) (daCons (dVar 1) daNil))) (daCons (dLst daNil) daNil))) (sSeq (sIf (dtB (dOp notInDict (dVar 2) (dVar 3))) (sRet (dC .non)) sNext) (sSeq (sWhile (dtB (dOp neOp (dVar 2) (dTup daNil))) (sSeq (sAsg 5 (dLc (diSeq (dF0 φ_best_lots (daCons (dVar 2) (daCons (dVar 1) daNil)))) (dgName 6) dtYes (dTup (daCons (dGetB (dVar 3) (dF0 φ_later (daCons (dVar 0) (daCons (dVar 2) (daCons (dVar 6) daNil)))) (dOp mulD (dC (.int 1023)) (dC (.int 1023)))) (daCons (dVar 6) daNil))) [6])) (sSeq (sExpr (dApp 4 (dOp ixD (dMinP (dVar 5)) (dC (.int 1))))) (sAsg 2 (dPur (dF0 φ_later (daCons (dVar 0) (daCons (dVar 2) (daCons (dOp ixD (dVar 4) (dUn negD (dC (.int 1)))) daNil))))))))) (sRetOwn 4)))))
theorem der_plan {P : Program} {w : World} {K : PySem.W.Frag} {mg : Str → Option Value} {base : Heap} (D : Md K mg) {φ_look_all : F0} (G_look_all : FnOk P w K mg base CX0 5 D.a_look_all D.d_look_all ["warren", "lookers", "where"] (spF0 K EW0 false φ_look_all)) {φ_days_table : F0} (G_days_table : FnOk P w K mg base CX0 3 D.a_days_table D.d_days_table ["warren", "lookers"] (spF0 K EW0 false φ_days_table)) {φ_best_lots : F0} (G_best_lots : FnOk P w K mg base CX0 2 D.a_best_lots D.d_best_lots ["where", "lookers"] (spF0 K EW0 false φ_best_lots)) {φ_later : F0} (G_later : FnOk P w K mg base CX0 2 D.a_later D.d_later ["warren", "where", "lot"] (spF0 K EW0 false φ_later)) (cdv : Value) (A : Around) (outer : List PySem.Env) (s : Shared) (H : Hp) (E : XK)
    (hr : Room 5 (A.deeper (envOfC "plan" (defScope s_plan) s.heap.objs.size D.a_plan cdv))) : PSs (cxOf CX0 P w K mg base ["warren", "lookers", "where", "table", "found", "some", "lot"] "plan" (defScope s_plan) D.a_plan cdv A outer s H E).nox (defBody s_plan) (upS K W0 false (t_plan φ_look_all φ_days_table φ_best_lots φ_later)) :=
  (ds_cons (ds_expr (de_f0 ((G_look_all).mono (by decide)) hr (by rfl) D.m_look_all D.F_look_all.kp D.b_look_all (da_cons (de_var 0) (da_cons (de_var 1) (da_cons (de_var 2) da_nil))))) (ds_cons (ds_parT (ms := [false, true]) (is := [3, 4]) (n := 2) rfl rfl (by decide) (ps_asg (pe_tup (dm_frz (de_f0 ((G_days_table).mono (by decide)) hr (by rfl) D.m_days_table D.F_days_table.kp D.b_days_table (da_cons (de_var 0) (da_cons (de_var 1) da_nil))) (dm_own (de_lst da_nil) dm_nil))) (pg_tup (by rfl) (pgs_cons (pg_name sc_plan.nd rfl (by first | exact Or.inl rfl | exact Or.inr rfl)) (pgs_cons (pg_name sc_plan.nd rfl (by first | exact Or.inl rfl | exact Or.inr rfl)) pgs_nil))))) (ds_cons (ds_if (dt_dnotin hr.u1 (de_var 2) (de_var 3)) (ds_one (ds_ret de_non)) ds_nil) (ds_cons (ds_while PassesOwn.never (dt_cmp (op_neD hr.u64) b_ne (de_var 2) (de_tup da_nil) (by rfl)) (ds_cons (ds_setLc (own := [("lot", 6)]) [6] rfl (by rfl) sc_plan.nd rfl rfl (sw_true rfl rfl rfl (by decide +kernel)) (di_seq (de_f0 ((G_best_lots).mono (by decide)) hr (by rfl) D.m_best_lots D.F_best_lots.kp D.b_best_lots (da_cons (de_var 2) (da_cons (de_var 1) da_nil)))) (blkOk_by (N := ["warren", "lookers", "where", "table", "found", "some", "lot"]) (sc := defScope s_plan) (by decide +kernel)) (fun _ _ _ _ _ => (dg_name (vs := [6]) sc_plan.nd rfl (by first | exact Or.inl rfl | exact Or.inr rfl) (by decide))) (fun _ _ _ _ _ => dts_nil) (fun _ _ _ _ _ => (de_tup (da_cons (de_get2 hr.u1 (de_var 3) (de_f0 ((G_later).mono (by decide)) hr (by rfl) D.m_later D.F_later.kp D.b_later (da_cons (de_var 0) (da_cons (de_var 2) (da_cons (de_var 6) da_nil)))) (de_op op_mul b_mul (de_globI (by rfl) D.c_DAYS) (de_globI (by rfl) D.c_DAYS)) ⟨rfl, rfl, rfl, rfl⟩) (da_cons (de_var 6) da_nil))))) (ds_cons (ds_expr (de_app (pe_bm PySem.F.plainAttrs_list PySem.F.slot_list_append PySem.F.type_list_append mt_append (pv 4) (pa_cons (de_ix ix_seq b_ix (de_minP (by rfl) hr.u65 (by rfl) D.z_min (de_var 5)) de_int (fun _ _ => rfl)) pa_nil)))) (ds_one (ds_set sc_plan.nd rfl (by first | exact Or.inl rfl | exact Or.inr rfl) (de_pur (de_f0 ((G_later).mono (by decide)) hr (by rfl) D.m_later D.F_later.kp D.b_later (da_cons (de_var 0) (da_cons (de_var 2) (da_cons (de_ix ix_seq b_ix (de_var 4) (de_un un_neg b_neg de_int) (fun _ _ => rfl)) da_nil)))))))))) (ds_one (ds_retOwn 4))))))
theorem fn_plan {P : Program} {w : World} {K : PySem.W.Frag} {mg : Str → Option Value} {base : Heap} (D : Md K mg) {φ_look_all : F0} (G_look_all : FnOk P w K mg base CX0 5 D.a_look_all D.d_look_all ["warren", "lookers", "where"] (spF0 K EW0 false φ_look_all)) {φ_days_table : F0} (G_days_table : FnOk P w K mg base CX0 3 D.a_days_table D.d_days_table ["warren", "lookers"] (spF0 K EW0 false φ_days_table)) {φ_best_lots : F0} (G_best_lots : FnOk P w K mg base CX0 2 D.a_best_lots D.d_best_lots ["where", "lookers"] (spF0 K EW0 false φ_best_lots)) {φ_later : F0} (G_later : FnOk P w K mg base CX0 2 D.a_later D.d_later ["warren", "where", "lot"] (spF0 K EW0 false φ_later)) {φ : F0} (h : ∀ ds k x, φ ds k x → ds.length = 3 ∧ t_plan φ_look_all φ_days_table φ_best_lots φ_later (endF0 false k x) (envF0 ["warren", "lookers", "where", "table", "found", "some", "lot"] ds)) : FnOk P w K mg base CX0 6 D.a_plan D.d_plan ["warren", "lookers", "where"] (spF0 K EW0 false φ) :=
  fn_F0 D.F_plan sc_plan rfl h fun cdv A outer s H E hr => der_plan D G_look_all G_days_table G_best_lots G_later cdv A outer s H E hr

def t__law_bag  : DS := (sSeq (sAsg 2 (dC (.int 0))) (sSeq (sIf (dtB (dOp ltD (dVar 1) (dCall lenF (daCons (dVar 0) daNil)))) (sAsg 2 (dOp modD (dOp ixD (dVar 0) (dVar 1)) (dOp powD (dC (.int 10)) (dC (.int 60))))) sNext) (sSeq (sAsg 3 (dOp addA (dC (.int 1)) (dOp modD (dOp addA (dOp addA (dOp addA (dOp mulD (dOp modD (dVar 2) (dC (.int 2147483629))) (dC (.int 16807))) (dOp mulD (dOp mulD (dC (.int 40009)) (dVar 1)) (dVar 1))) (dOp mulD (dC (.int 7919)) (dVar 1))) (dC (.int 1009))) (dC (.int 2147483645))))) (sSeq (sIf (dtB (dOp ltD (dVar 2) (dOp powD (dC (.int 10)) (dC (.int 18))))) (sRet (dLst (daCons (dC (.int 0)) (daCons (dVar 3) daNil)))) sNext) (sRet (dLst (daCons (dVar 2) (daCons (dVar 3) daNil))))))))
theorem der__law_bag {P : Program} {w : World} {K : PySem.W.Frag} {mg : Str → Option Value} {base : Heap} (D : Md K mg)  (cdv : Value) (A : Around) (outer : List PySem.Env) (s : Shared) (H : Hp) (E : XK)
    (hr : Room 0 (A.deeper (envOfC "_law_bag" (defScope s__law_bag) s.heap.objs.size D.a__law_bag cdv))) : PSs (cxOf CX0 P w K mg base ["script", "k", "cell", "seed"] "_law_bag" (defScope s__law_bag) D.a__law_bag cdv A outer s H E).nox (defBody s__law_bag) (upS K W0 true (t__law_bag )) :=
  (ds_cons (ds_set sc__law_bag.nd rfl (by first | exact Or.inl rfl | exact Or.inr rfl) de_int) (ds_cons (ds_if (dt_cmp (op_ltA hr.u0) b_lt (de_var 1) (de_callB call_len_seq c_len (by rfl) D.z_len (by decide +kernel) (da_cons (de_var 0) da_nil)) (by rfl)) (ds_one (ds_set sc__law_bag.nd rfl (by first | exact Or.inl rfl | exact Or.inr rfl) (de_op op_mod b_mod (de_ix ix_seq b_ix (de_var 0) (de_var 1) (fun _ _ => rfl)) (de_op op_pow b_pow de_int de_int)))) ds_nil) (ds_cons (ds_set sc__law_bag.nd rfl (by first | exact Or.inl rfl | exact Or.inr rfl) (de_op op_addA b_addA de_int (de_op op_mod b_mod (de_op op_addA b_addA (de_op op_addA b_addA (de_op op_addA b_addA (de_op op_mul b_mul (de_op op_mod b_mod (de_var 2) de_int) de_int) (de_op op_mul b_mul (de_op op_mul b_mul de_int (de_var 1)) (de_var 1))) (de_op op_mul b_mul de_int (de_var 1))) de_int) de_int))) (ds_cons (ds_if (dt_cmp (op_ltA hr.u0) b_lt (de_var 2) (de_op op_pow b_pow de_int de_int) (by rfl)) (ds_one (ds_retF (de_lst (da_cons de_int (da_cons (de_var 3) da_nil))))) ds_nil) (ds_one (ds_retF (de_lst (da_cons (de_var 2) (da_cons (de_var 3) da_nil)))))))))
theorem fn__law_bag {P : Program} {w : World} {K : PySem.W.Frag} {mg : Str → Option Value} {base : Heap} (D : Md K mg)  {φ : F0} (h : ∀ ds k x, φ ds k x → ds.length = 2 ∧ t__law_bag  (endF0 true k x) (envF0 ["script", "k", "cell", "seed"] ds)) : FnOk P w K mg base CX0 1 D.a__law_bag D.d__law_bag ["script", "k"] (spF0 K EW0 true φ) :=
  fn_F0 D.F__law_bag sc__law_bag rfl h fun cdv A outer s H E hr => der__law_bag D  cdv A outer s H E hr

def t__law_take  : DS := (sSeq (sIf (dtPur (dtB (dOp gtD (dOp ixD (dVar 0) (dC (.int 0))) (dC (.int 0))))) (sSeq (sAsg 2 (dPur (dOp modD (dOp ixD (dVar 0) (dC (.int 0))) (dVar 1)))) (sSeq (sSetL 0 (dC (.int 0)) (dPur (dOp divD (dOp ixD (dVar 0) (dC (.int 0))) (dVar 1)))) (sRet (dVar 2)))) sNext) (sSeq (sSetL 0 (dC (.int 1)) (dPur (dOp modD (dOp mulD (dOp ixD (dVar 0) (dC (.int 1))) (dC (.int 48271))) (dC (.int 2147483647))))) (sRet (dPur (dOp modD (dOp divD (dOp modD (dOp mulD (dOp divD (dOp ixD (dVar 0) (dC (.int 1))) (dC (.int 13))) (dOp addA (dOp modD (dOp ixD (dVar 0) (dC (.int 1))) (dC (.int 32749))) (dC (.int 17)))) (dC (.int 2147483629))) (dC (.int 32))) (dVar 1))))))
theorem der__law_take {P : Program} {w : World} {K : PySem.W.Frag} {mg : Str → Option Value} {base : Heap} (D : Md K mg)  (cdv : Value) (A : Around) (outer : List PySem.Env) (s : Shared) (H : Hp) (E : XK)
    (hr : Room 0 (A.deeper (envOfC "_law_take" (defScope s__law_take) s.heap.objs.size D.a__law_take cdv))) : PSs (cxOf CX0 P w K mg base ["bag", "count", "found"] "_law_take" (defScope s__law_take) D.a__law_take cdv A outer s H E).nox (defBody s__law_take) (upS K W0 false (t__law_take )) :=
  (ds_cons (ds_if (dt_pur (dt_cmp op_gt b_gt (de_ix ix_seq b_ix (de_var 0) de_int (fun _ _ => rfl)) de_int (by rfl))) (ds_cons (ds_set sc__law_take.nd rfl (by first | exact Or.inl rfl | exact Or.inr rfl) (de_pur (de_op op_mod b_mod (de_ix ix_seq b_ix (de_var 0) de_int (fun _ _ => rfl)) (de_var 1)))) (ds_cons (ds_setL (ps_asg (de_pur (de_op op_fdiv b_div (de_ix ix_seq b_ix (de_var 0) de_int (fun _ _ => rfl)) (de_var 1))) (pg_sub (pv 0) de_int set_list))) (ds_one (ds_ret (de_var 2))))) ds_nil) (ds_cons (ds_setL (ps_asg (de_pur (de_op op_mod b_mod (de_op op_mul b_mul (de_ix ix_seq b_ix (de_var 0) de_int (fun _ _ => rfl)) de_int) de_int)) (pg_sub (pv 0) de_int set_list))) (ds_one (ds_ret (de_pur (de_op op_mod b_mod (de_op op_fdiv b_div (de_op op_mod b_mod (de_op op_mul b_mul (de_op op_fdiv b_div (de_ix ix_seq b_ix (de_var 0) de_int (fun _ _ => rfl)) de_int) (de_op op_addA b_addA (de_op op_mod b_mod (de_ix ix_seq b_ix (de_var 0) de_int (fun _ _ => rfl)) de_int) de_int)) de_int) de_int) (de_var 1)))))))
theorem fn__law_take {P : Program} {w : World} {K : PySem.W.Frag} {mg : Str → Option Value} {base : Heap} (D : Md K mg)  {φ : F1} (h : ∀ c ds k x, φ c ds k x → ds.length = 1 ∧ t__law_take  (endF1 k x) (envF1 ["bag", "count", "found"] c ds)) : FnOk P w K mg base CX0 1 D.a__law_take D.d__law_take ["bag", "count"] (spF1 K EW0 φ) :=
  fn_F1 D.F__law_take sc__law_take rfl h fun cdv A outer s H E hr => der__law_take D  cdv A outer s H E hr

def t__law_of (φ__law_take : F1) : DS := (sRet (dOp ixD (dVar 1) (dF1 φ__law_take 0 (daCons (dCall lenF (daCons (dVar 1) daNil)) daNil))))
theorem der__law_of {P : Program} {w : World} {K : PySem.W.Frag} {mg : Str → Option Value} {base : Heap} (D : Md K mg) {φ__law_take : F1} (G__law_take : FnOk P w K mg base CX0 1 D.a__law_take D.d__law_take ["bag", "count"] (spF1 K EW0 φ__law_take)) (cdv : Value) (A : Around) (outer : List PySem.Env) (s : Shared) (H : Hp) (E : XK)
    (hr : Room 1 (A.deeper (envOfC "_law_of" (defScope s__law_of) s.heap.objs.size D.a__law_of cdv))) : PSs (cxOf CX0 P w K mg base ["bag", "some"] "_law_of" (defScope s__law_of) D.a__law_of cdv A outer s H E).nox (defBody s__law_of) (upS K W0 false (t__law_of φ__law_take)) :=
  (ds_one (ds_ret (de_ix ix_seq b_ix (de_var 1) (de_f1 (i := 0) ((G__law_take).mono (by decide)) hr (by rfl) D.m__law_take D.F__law_take.kp D.b__law_take (pv 0) (da_cons (de_callB call_len_seq c_len (by rfl) D.z_len (by decide +kernel) (da_cons (de_var 1) da_nil)) da_nil)) (fun _ _ => rfl))))
theorem fn__law_of {P : Program} {w : World} {K : PySem.W.Frag} {mg : Str → Option Value} {base : Heap} (D : Md K mg) {φ__law_take : F1} (G__law_take : FnOk P w K mg base CX0 1 D.a__law_take D.d__law_take ["bag", "count"] (spF1 K EW0 φ__law_take)) {φ : F1} (h : ∀ c ds k x, φ c ds k x → ds.length = 1 ∧ t__law_of φ__law_take (endF1 k x) (envF1 ["bag", "some"] c ds)) : FnOk P w K mg base CX0 2 D.a__law_of D.d__law_of ["bag", "some"] (spF1 K EW0 φ) :=
  fn_F1 D.F__law_of sc__law_of rfl h fun cdv A outer s H E hr => der__law_of D G__law_take cdv A outer s H E hr

def t__law_warren (φ__law_take : F1) (φ__law_of : F1) : DS := (sSeq (sPar [false, true] [2, 3] (daCons (dOp addA (dC (.int 2)) (dF1 φ__law_take 0 (daCons (dOp subD (dVar 1) (dC (.int 1))) daNil))) (daCons (dC (.dT [])) daNil))) (sSeq (sFor (diRng2 (dC (.int 1)) (dVar 2)) (dgName 4) (sSeq (sAsg 5 (dF1 φ__law_of 0 (daCons (dLst (daCons (dOp subD (dVar 4) (dC (.int 1))) (daCons (dF1 φ__law_take 0 (daCons (dVar 4) daNil)) daNil))) daNil))) (sIf (dtB (dOp gtD (dF1 φ__law_take 0 (daCons (dC (.int 8)) daNil)) (dC (.int 0)))) (sPutD 3 (dTup (daCons (dVar 5) (daCons (dVar 4) daNil))) (dC (.bl true))) sNext))) (sSeq (sFor (diRng1 (dF1 φ__law_of 0 (daCons (dLst (daCons (dC (.int 0)) (daCons (dC (.int 0)) (daCons (dC (.int 0)) (daCons (dC (.int 1)) (daCons (dC (.int 2)) (daCons (dC (.int 5)) daNil))))))) daNil))) (dgName 6) (sSeq (sPar [false, false] [7, 8] (daCons (dF1 φ__law_take 0 (daCons (dVar 2) daNil)) (daCons (dF1 φ__law_take 0 (daCons (dVar 2) daNil)) daNil))) (sIf (dtB (dOp neOp (dVar 7) (dVar 8))) (sPutD 3 (dTup (daCons (dCall min2F (daCons (dVar 7) (daCons (dVar 8) daNil))) (daCons (dCall max2F (daCons (dVar 7) (daCons (dVar 8) daNil))) daNil))) (dC (.bl true))) sNext))) (sSeq (sFor (diRng1 (dVar 2)) (dgName 4) (sIf (dtPur (dtB (dOp eqOp (dLcK 3 (dgName 9) (dtB (dOp inOp (dVar 4) (dVar 9))) (dVar 9) [9]) (dLst daNil)))) (sSeq (sAsg 8 (dOp modD (dOp addA (dVar 4) (dC (.int 1))) (dVar 2))) (sPutD 3 (dTup (daCons (dCall min2F (daCons (dVar 4) (daCons (dVar 8) daNil))) (daCons (dCall max2F (daCons (dVar 4) (daCons (dVar 8) daNil))) daNil))) (dC (.bl true)))) sNext)) (sRet (dPur (dTup (daCons (dVar 2) (daCons (dCall tupF (daCons (dCall sortDF (daCons (dVar 3) daNil)) daNil)) daNil)))))))))
theorem der__law_warren {P : Program} {w : World} {K : PySem.W.Frag} {mg : Str → Option Value} {base : Heap} (D : Md K mg) {φ__law_take : F1} (G__law_take : FnOk P w K mg base CX0 1 D.a__law_take D.d__law_take ["bag", "count"] (spF1 K EW0 φ__law_take)) {φ__law_of : F1} (G__law_of : FnOk P w K mg base CX0 2 D.a__law_of D.d__law_of ["bag", "some"] (spF1 K EW0 φ__law_of)) (cdv : Value) (A : Around) (outer : List PySem.Env) (s : Shared) (H : Hp) (E : XK)
    (hr : Room 2 (A.deeper (envOfC "_law_warren" (defScope s__law_warren) s.heap.objs.size D.a__law_warren cdv))) : PSs (cxOf CX0 P w K mg base ["bag", "most", "holes", "found", "hole", "near", "turn", "one", "other", "pair"] "_law_warren" (defScope s__law_warren) D.a__law_warren cdv A outer s H E).nox (defBody s__law_warren) (upS K W0 false (t__law_warren φ__law_take φ__law_of)) :=
  (ds_cons (ds_par2 (ms := [false, true]) (i := 2) (j := 3) rfl (ps_par (by rfl) sc__law_warren.nd rfl rfl (by decide) rfl rfl (dm_frz (de_op op_addA b_addA de_int (de_f1 (i := 0) ((G__law_take).mono (by decide)) hr (by rfl) D.m__law_take D.F__law_take.kp D.b__law_take (pv 0) (da_cons (de_op op_sub b_sub (de_var 1) de_int) da_nil))) (dm_own de_newT dm_nil)) (by rfl))) (ds_cons (ds_for (vs := [4]) PassesOwn.never (by rfl) (di_rng2 (by rfl) D.z_range de_int (de_var 2)) (dg_name (vs := [4]) sc__law_warren.nd rfl (by first | exact Or.inl rfl | exact Or.inr rfl) (by decide)) (ds_cons (ds_set sc__law_warren.nd rfl (by first | exact Or.inl rfl | exact Or.inr rfl) (de_f1 (i := 0) ((G__law_of).mono (by decide)) hr (by rfl) D.m__law_of D.F__law_of.kp D.b__law_of (pv 0) (da_cons (de_F (de_lst (da_cons (de_op op_sub b_sub (de_var 4) de_int) (da_cons (de_f1 (i := 0) ((G__law_take).mono (by decide)) hr (by rfl) D.m__law_take D.F__law_take.kp D.b__law_take (pv 0) (da_cons (de_var 4) da_nil)) da_nil)))) da_nil))) (ds_one (ds_if (dt_cmp op_gt b_gt (de_f1 (i := 0) ((G__law_take).mono (by decide)) hr (by rfl) D.m__law_take D.F__law_take.kp D.b__law_take (pv 0) (da_cons de_int da_nil)) de_int (by rfl)) (ds_one (ds_putD (ps_dput hr.u1 (pv 3) (de_tup (da_cons (de_var 5) (da_cons (de_var 4) da_nil))) de_bl (by rfl)))) ds_nil)))) (ds_cons (ds_for (vs := [6]) PassesOwn.never (by rfl) (di_rng1 (by rfl) D.z_range (de_f1 (i := 0) ((G__law_of).mono (by decide)) hr (by rfl) D.m__law_of D.F__law_of.kp D.b__law_of (pv 0) (da_cons (de_F (de_lst (da_cons de_int (da_cons de_int (da_cons de_int (da_cons de_int (da_cons de_int (da_cons de_int da_nil)))))))) da_nil))) (dg_name (vs := [6]) sc__law_warren.nd rfl (by first | exact Or.inl rfl | exact Or.inr rfl) (by decide)) (ds_cons (ds_par2 (ms := [false, false]) (i := 7) (j := 8) rfl (ps_par (by rfl) sc__law_warren.nd rfl rfl (by decide) rfl rfl (dm_frz (de_f1 (i := 0) ((G__law_take).mono (by decide)) hr (by rfl) D.m__law_take D.F__law_take.kp D.b__law_take (pv 0) (da_cons (de_var 2) da_nil)) (dm_frz (de_f1 (i := 0) ((G__law_take).mono (by decide)) hr (by rfl) D.m__law_take D.F__law_take.kp D.b__law_take (pv 0) (da_cons (de_var 2) da_nil)) dm_nil)) (by rfl))) (ds_one (ds_if (dt_cmp (op_neD hr.u64) b_ne (de_var 7) (de_var 8) (by rfl)) (ds_one (ds_putD (ps_dput hr.u1 (pv 3) (de_tup (da_cons (de_callB (call_min2 (by rfl)) c_min2 (by rfl) D.z_min (by decide +kernel) (da_cons (de_var 7) (da_cons (de_var 8) da_nil))) (da_cons (de_callB (call_max2 (by rfl)) c_max2 (by rfl) D.z_max (by decide +kernel) (da_cons (de_var 7) (da_cons (de_var 8) da_nil))) da_nil))) de_bl (by rfl)))) ds_nil)))) (ds_cons (ds_for (vs := [4]) PassesOwn.never (by rfl) (di_rng1 (by rfl) D.z_range (de_var 2)) (dg_name (vs := [4]) sc__law_warren.nd rfl (by first | exact Or.inl rfl | exact Or.inr rfl) (by decide)) (ds_one (ds_if (dt_pur (dt_cmp (op_eqD hr.u64) b_eq (de_F (de_lcK (i := 3) (own := [("pair", 9)]) [9] rfl (by rfl) sc__law_warren.nd (pv 3) (blkOk_by (N := ["bag", "most", "holes", "found", "hole", "near", "turn", "one", "other", "pair"]) (sc := defScope s__law_warren) (by decide +kernel)) (fun _ _ _ _ _ => (dg_name (vs := [9]) sc__law_warren.nd rfl (by first | exact Or.inl rfl | exact Or.inr rfl) (by decide))) (fun _ _ _ _ _ => (dts_one (dt_cmp (op_inA hr.u65) b_in (de_var 4) (de_var 9) (by rfl)))) (fun _ _ _ _ _ => (de_var 9)))) (de_F (de_lst da_nil)) (by rfl))) (ds_cons (ds_set sc__law_warren.nd rfl (by first | exact Or.inl rfl | exact Or.inr rfl) (de_op op_mod b_mod (de_op op_addA b_addA (de_var 4) de_int) (de_var 2))) (ds_one (ds_putD (ps_dput hr.u1 (pv 3) (de_tup (da_cons (de_callB (call_min2 (by rfl)) c_min2 (by rfl) D.z_min (by decide +kernel) (da_cons (de_var 4) (da_cons (de_var 8) da_nil))) (da_cons (de_callB (call_max2 (by rfl)) c_max2 (by rfl) D.z_max (by decide +kernel) (da_cons (de_var 4) (da_cons (de_var 8) da_nil))) da_nil))) de_bl (by rfl))))) ds_nil))) (ds_one (ds_ret (de_pur (de_tup (da_cons (de_var 2) (da_cons (de_callT call_tuple_of c_tuple (by rfl) D.z_tuple (by decide +kernel) (da_cons (de_F (de_callBF (cr_sortDT (by rfl) hr.u65) c_sortDT (by rfl) D.z_sorted (by decide +kernel) (da_cons (de_var 3) da_nil))) da_nil)) da_nil))))))))))
theorem fn__law_warren {P : Program} {w : World} {K : PySem.W.Frag} {mg : Str → Option Value} {base : Heap} (D : Md K mg) {φ__law_take : F1} (G__law_take : FnOk P w K mg base CX0 1 D.a__law_take D.d__law_take ["bag", "count"] (spF1 K EW0 φ__law_take)) {φ__law_of : F1} (G__law_of : FnOk P w K mg base CX0 2 D.a__law_of D.d__law_of ["bag", "some"] (spF1 K EW0 φ__law_of)) {φ : F1} (h : ∀ c ds k x, φ c ds k x → ds.length = 1 ∧ t__law_warren φ__law_take φ__law_of (endF1 k x) (envF1 ["bag", "most", "holes", "found", "hole", "near", "turn", "one", "other", "pair"] c ds)) : FnOk P w K mg base CX0 3 D.a__law_warren D.d__law_warren ["bag", "most"] (spF1 K EW0 φ) :=
  fn_F1 D.F__law_warren sc__law_warren rfl h fun cdv A outer s H E hr => der__law_warren D G__law_take G__law_of cdv A outer s H E hr

def t__law_near  : DS := (sRet (dLc (diRng1 (dOp ixD (dVar 0) (dC (.int 0)))) (dgName 2) (dtAnd (dtB (dOp inOp (dTup (daCons (dCall min2F (daCons (dVar 2) (daCons (dVar 1) daNil))) (daCons (dCall max2F (daCons (dVar 2) (daCons (dVar 1) daNil))) daNil))) (dOp ixD (dVar 0) (dC (.int 1))))) (dtB (dOp neOp (dVar 2) (dVar 1)))) (dVar 2) [2]))
theorem der__law_near {P : Program} {w : World} {K : PySem.W.Frag} {mg : Str → Option Value} {base : Heap} (D : Md K mg)  (cdv : Value) (A : Around) (outer : List PySem.Env) (s : Shared) (H : Hp) (E : XK)
    (hr : Room 0 (A.deeper (envOfC "_law_near" (defScope s__law_near) s.heap.objs.size D.a__law_near cdv))) : PSs (cxOf CX0 P w K mg base ["warren", "hole", "one"] "_law_near" (defScope s__law_near) D.a__law_near cdv A outer s H E).nox (defBody s__law_near) (upS K W0 false (t__law_near )) :=
  (ds_one (ds_ret (de_F (de_lc (own := [("one", 2)]) [2] rfl (by rfl) sc__law_near.nd (di_rng1 (by rfl) D.z_range (de_ix ix_seq b_ix (de_var 0) de_int (fun _ _ => rfl))) (blkOk_by (N := ["warren", "hole", "one"]) (sc := defScope s__law_near) (by decide +kernel)) (fun _ _ _ _ _ => (dg_name (vs := [2]) sc__law_near.nd rfl (by first | exact Or.inl rfl | exact Or.inr rfl) (by decide))) (fun _ _ _ _ _ => (dts_one (dw_and (dt_cmp (op_inA hr.u65) b_in (de_tup (da_cons (de_callB (call_min2 (by rfl)) c_min2 (by rfl) D.z_min (by decide +kernel) (da_cons (de_var 2) (da_cons (de_var 1) da_nil))) (da_cons (de_callB (call_max2 (by rfl)) c_max2 (by rfl) D.z_max (by decide +kernel) (da_cons (de_var 2) (da_cons (de_var 1) da_nil))) da_nil))) (de_ix ix_seq b_ix (de_var 0) de_int (fun _ _ => rfl)) (by rfl)) (dw_and1 (dt_cmp (op_neD hr.u64) b_ne (de_var 2) (de_var 1) (by rfl)))).pt)) (fun _ _ _ _ _ => (de_var 2))))))
theorem fn__law_near {P : Program} {w : World} {K : PySem.W.Frag} {mg : Str → Option Value} {base : Heap} (D : Md K mg)  {φ : F0} (h : ∀ ds k x, φ ds k x → ds.length = 2 ∧ t__law_near  (endF0 false k x) (envF0 ["warren", "hole", "one"] ds)) : FnOk P w K mg base CX0 1 D.a__law_near D.d__law_near ["warren", "hole"] (spF0 K EW0 false φ) :=
  fn_F0 D.F__law_near sc__law_near rfl h fun cdv A outer s H E hr => der__law_near D  cdv A outer s H E hr

def t__law_later (φ__law_near : F0) : DS := (sSeq (sAsgO 3 (dC (.dI []))) (sSeq (sFor (diSeq (dVar 1)) (dgName 4) (sFor (diSeq (dF0 φ__law_near (daCons (dVar 0) (daCons (dVar 4) daNil)))) (dgName 5) (sIf (dtB (dOp notInOp (dVar 4) (dVar 2))) (sPutD 3 (dVar 5) (dC (.bl true))) sNext))) (sRet (dPur (dCall tupF (daCons (dCall sortIF (daCons (dVar 3) daNil)) daNil))))))
theorem der__law_later {P : Program} {w : World} {K : PySem.W.Frag} {mg : Str → Option Value} {base : Heap} (D : Md K mg) {φ__law_near : F0} (G__law_near : FnOk P w K mg base CX0 1 D.a__law_near D.d__law_near ["warren", "hole"] (spF0 K EW0 false φ__law_near)) (cdv : Value) (A : Around) (outer : List PySem.Env) (s : Shared) (H : Hp) (E : XK)
    (hr : Room 1 (A.deeper (envOfC "_law_later" (defScope s__law_later) s.heap.objs.size D.a__law_later cdv))) : PSs (cxOf CX0 P w K mg base ["warren", "where", "lot", "found", "hole", "one"] "_law_later" (defScope s__law_later) D.a__law_later cdv A outer s H E).nox (defBody s__law_later) (upS K W0 false (t__law_later φ__law_near)) :=
  (ds_cons (ds_setO sc__law_later.nd rfl (by first | exact Or.inl rfl | exact Or.inr rfl) de_newI) (ds_cons (ds_for (vs := [4]) PassesOwn.never (by rfl) (di_seq (de_var 1)) (dg_name (vs := [4]) sc__law_later.nd rfl (by first | exact Or.inl rfl | exact Or.inr rfl) (by decide)) (ds_one (ds_for (vs := [5]) PassesOwn.never (by rfl) (di_seq (de_f0 ((G__law_near).mono (by decide)) hr (by rfl) D.m__law_near D.F__law_near.kp D.b__law_near (da_cons (de_var 0) (da_cons (de_var 4) da_nil)))) (dg_name (vs := [5]) sc__law_later.nd rfl (by first | exact Or.inl rfl | exact Or.inr rfl) (by decide)) (ds_one (ds_if (dt_cmp (op_notInA hr.u65) b_notin (de_var 4) (de_var 2) (by rfl)) (ds_one (ds_putD (ps_dput hr.u1 (pv 3) (de_var 5) de_bl (by rfl)))) ds_nil))))) (ds_one (ds_ret (de_pur (de_callT call_tuple_of c_tuple (by rfl) D.z_tuple (by decide +kernel) (da_cons (de_F (de_callBF (call_sortedDI (by rfl)) c_sortI (by rfl) D.z_sorted (by decide +kernel) (da_cons (de_var 3) da_nil))) da_nil)))))))
theorem fn__law_later {P : Program} {w : World} {K : PySem.W.Frag} {mg : Str → Option Value} {base : Heap} (D : Md K mg) {φ__law_near : F0} (G__law_near : FnOk P w K mg base CX0 1 D.a__law_near D.d__law_near ["warren", "hole"] (spF0 K EW0 false φ__law_near)) {φ : F0} (h : ∀ ds k x, φ ds k x → ds.length = 3 ∧ t__law_later φ__law_near (endF0 false k x) (envF0 ["warren", "where", "lot", "found", "hole", "one"] ds)) : FnOk P w K mg base CX0 2 D.a__law_later D.d__law_later ["warren", "where", "lot"] (spF0 K EW0 false φ) :=
  fn_F0 D.F__law_later sc__law_later rfl h fun cdv A outer s H E hr => der__law_later D G__law_near cdv A outer s H E hr

def t__law_lots  : DS := (sSeq (sAsg 2 (dLst (daCons (dTup daNil) daNil))) (sSeq (sFor (diRng1 (dVar 0)) (dgName 3) (sAsg 2 (dOp catL (dVar 2) (dLc (diSeq (dVar 2)) (dgName 4) (dtB (dOp ltD (dCall lenF (daCons (dVar 4) daNil)) (dVar 1))) (dOp addA (dVar 4) (dTup (daCons (dVar 3) daNil))) [4])))) (sRet (dCall sortF (daCons (dVar 2) daNil)))))
theorem der__law_lots {P : Program} {w : World} {K : PySem.W.Frag} {mg : Str → Option Value} {base : Heap} (D : Md K mg)  (cdv : Value) (A : Around) (outer : List PySem.Env) (s : Shared) (H : Hp) (E : XK)
    (hr : Room 0 (A.deeper (envOfC "_law_lots" (defScope s__law_lots) s.heap.objs.size D.a__law_lots cdv))) : PSs (cxOf CX0 P w K mg base ["holes", "most", "found", "hole", "lot_so"] "_law_lots" (defScope s__law_lots) D.a__law_lots cdv A outer s H E).nox (defBody s__law_lots) (upS K W0 false (t__law_lots )) :=
  (ds_cons (ds_set sc__law_lots.nd rfl (by first | exact Or.inl rfl | exact Or.inr rfl) (de_F (de_lst (da_cons (de_tup da_nil) da_nil)))) (ds_cons (ds_for (vs := [3]) PassesOwn.never (by rfl) (di_rng1 (by rfl) D.z_range (de_var 0)) (dg_name (vs := [3]) sc__law_lots.nd rfl (by first | exact Or.inl rfl | exact Or.inr rfl) (by decide)) (ds_one (ds_set sc__law_lots.nd rfl (by first | exact Or.inl rfl | exact Or.inr rfl) (de_F (de_opF op_cat b_catL (de_var 2) (de_F (de_lc (own := [("lot_so", 4)]) [4] rfl (by rfl) sc__law_lots.nd (di_seq (de_var 2)) (blkOk_by (N := ["holes", "most", "found", "hole", "lot_so"]) (sc := defScope s__law_lots) (by decide +kernel)) (fun _ _ _ _ _ => (dg_name (vs := [4]) sc__law_lots.nd rfl (by first | exact Or.inl rfl | exact Or.inr rfl) (by decide))) (fun _ _ _ _ _ => (dts_one (dt_cmp (op_ltA hr.u0) b_lt (de_callB call_len_seq c_len (by rfl) D.z_len (by decide +kernel) (da_cons (de_var 4) da_nil)) (de_var 1) (by rfl)))) (fun _ _ _ _ _ => (de_op op_addA b_addA (de_var 4) (de_tup (da_cons (de_var 3) da_nil))))))))))) (ds_one (ds_ret (de_F (de_callBF (cr_sortL hr.u65) c_sortL (by rfl) D.z_sorted (by decide +kernel) (da_cons (de_var 2) da_nil)))))))
theorem fn__law_lots {P : Program} {w : World} {K : PySem.W.Frag} {mg : Str → Option Value} {base : Heap} (D : Md K mg)  {φ : F0} (h : ∀ ds k x, φ ds k x → ds.length = 2 ∧ t__law_lots  (endF0 false k x) (envF0 ["holes", "most", "found", "hole", "lot_so"] ds)) : FnOk P w K mg base CX0 1 D.a__law_lots D.d__law_lots ["holes", "most"] (spF0 K EW0 false φ) :=
  fn_F0 D.F__law_lots sc__law_lots rfl h fun cdv A outer s H E hr => der__law_lots D  cdv A outer s H E hr

def t__law_days (φ__law_lots : F0) (φ__law_later : F0) : DS := (sSeq (sPar [false, true] [2, 3] (daCons (dF0 φ__law_lots (daCons (dOp ixD (dVar 0) (dC (.int 0))) (daCons (dVar 1) daNil))) (daCons (dC (.dT [])) daNil))) (sSeq (sFor (diSeq (dF0 φ__law_lots (daCons (dOp ixD (dVar 0) (dC (.int 0))) (daCons (dOp ixD (dVar 0) (dC (.int 0))) daNil)))) (dgName 4) (sPutD 3 (dVar 4) (dLc (diSeq (dVar 2)) (dgName 9) dtYes (dF0 φ__law_later (daCons (dVar 0) (daCons (dVar 4) (daCons (dVar 9) daNil)))) [9]))) (sSeq (sPar [true, false, false] [5, 6, 7] (daCons (dDict1 (dTup daNil) (dC (.int 0))) (daCons (dC (.bl true)) (daCons (dC (.int 0)) daNil)))) (sFreeze 3 (sSeq (sWhile (dtTru (dVar 6)) (sSeq (sAsg 7 (dOp addA (dVar 7) (dC (.int 1)))) (sSeq (sAsgO 8 (dLst daNil)) (sSeq (sForK 3 (dgName 4) (sIf (dtPur (dtAnd (dtB (dOp notInDict (dVar 4) (dVar 5))) (dtB (dOp neOp (dLc (diSeq (dOp itemDict (dVar 3) (dVar 4))) (dgName 10) (dtB (dOp inDict (dVar 10) (dVar 5))) (dVar 10) [10]) (dLst daNil))))) (sExpr (dApp 8 (dVar 4))) sNext)) (sFreeze 8 (sSeq (sFor (diSeq (dVar 8)) (dgName 4) (sPutD 5 (dVar 4) (dVar 7))) (sAsg 6 (dOp neOp (dVar 8) (dLst daNil))))))))) (sRetOwn 5))))))
theorem der__law_days {P : Program} {w : World} {K : PySem.W.Frag} {mg : Str → Option Value} {base : Heap} (D : Md K mg) {φ__law_lots : F0} (G__law_lots : FnOk P w K mg base CX0 1 D.a__law_lots D.d__law_lots ["holes", "most"] (spF0 K EW0 false φ__law_lots)) {φ__law_later : F0} (G__law_later : FnOk P w K mg base CX0 2 D.a__law_later D.d__law_later ["warren", "where", "lot"] (spF0 K EW0 false φ__law_later)) (cdv : Value) (A : Around) (outer : List PySem.Env) (s : Shared) (H : Hp) (E : XK)
    (hr : Room 2 (A.deeper (envOfC "_law_days" (defScope s__law_days) s.heap.objs.size D.a__law_days cdv))) : PSs (cxOf CX0 P w K mg base ["warren", "lookers", "looks", "rows", "where", "found", "going", "turn", "new", "lot_so", "one"] "_law_days" (defScope s__law_days) D.a__law_days cdv A outer s H E).nox (defBody s__law_days) (upS K W0 false (t__law_days φ__law_lots φ__law_later)) :=
  (ds_cons (ds_par2 (ms := [false, true]) (i := 2) (j := 3) rfl (ps_par (by rfl) sc__law_days.nd rfl rfl (by decide) rfl rfl (dm_frz (de_f0 ((G__law_lots).mono (by decide)) hr (by rfl) D.m__law_lots D.F__law_lots.kp D.b__law_lots (da_cons (de_ix ix_seq b_ix (de_var 0) de_int (fun _ _ => rfl)) (da_cons (de_var 1) da_nil))) (dm_own de_newT dm_nil)) (by rfl))) (ds_cons (ds_for (vs := [4]) PassesOwn.never (by rfl) (di_seq (de_f0 ((G__law_lots).mono (by decide)) hr (by rfl) D.m__law_lots D.F__law_lots.kp D.b__law_lots (da_cons (de_ix ix_seq b_ix (de_var 0) de_int (fun _ _ => rfl)) (da_cons (de_ix ix_seq b_ix (de_var 0) de_int (fun _ _ => rfl)) da_nil)))) (dg_name (vs := [4]) sc__law_days.nd rfl (by first | exact Or.inl rfl | exact Or.inr rfl) (by decide)) (ds_one (ds_putD (ps_dput hr.u1 (pv 3) (de_var 4) (de_F (de_lc (own := [("lot_so", 9)]) [9] rfl (by rfl) sc__law_days.nd (di_seq (de_var 2)) (blkOk_by (N := ["warren", "lookers", "looks", "rows", "where", "found", "going", "turn", "new", "lot_so", "one"]) (sc := defScope s__law_days) (by decide +kernel)) (fun _ _ _ _ _ => (dg_name (vs := [9]) sc__law_days.nd rfl (by first | exact Or.inl rfl | exact Or.inr rfl) (by decide))) (fun _ _ _ _ _ => dts_nil) (fun _ _ _ _ _ => (de_f0 ((G__law_later).mono (by decide)) hr (by rfl) D.m__law_later D.F__law_later.kp D.b__law_later (da_cons (de_var 0) (da_cons (de_var 4) (da_cons (de_var 9) da_nil))))))) (by rfl))))) (ds_cons (ds_parT (ms := [true, false, false]) (is := [5, 6, 7]) (n := 3) rfl rfl (by decide) (ps_asg (pe_tup (dm_own (de_dict1 hr.u1 (de_tup da_nil) de_int (fun _ _ _ z => z)) (dm_frz de_bl (dm_frz de_int dm_nil)))) (pg_tup (by rfl) (pgs_cons (pg_name sc__law_days.nd rfl (by first | exact Or.inl rfl | exact Or.inr rfl)) (pgs_cons (pg_name sc__law_days.nd rfl (by first | exact Or.inl rfl | exact Or.inr rfl)) (pgs_cons (pg_name sc__law_days.nd rfl (by first | exact Or.inl rfl | exact Or.inr rfl)) pgs_nil)))))) (ds_freeze 3 (ds_cons (ds_while PassesOwn.never (dt_tru (de_var 6)) (ds_cons (ds_set sc__law_days.nd rfl (by first | exact Or.inl rfl | exact Or.inr rfl) (de_op op_addA b_addA (de_var 7) de_int)) (ds_cons (ds_setO sc__law_days.nd rfl (by first | exact Or.inl rfl | exact Or.inr rfl) (de_lst da_nil)) (ds_cons (ds_forK (vs := [4]) PassesOwn.never (by rfl) (pv 3) (dg_name (vs := [4]) sc__law_days.nd rfl (by first | exact Or.inl rfl | exact Or.inr rfl) (by decide)) (ds_one (ds_if (dt_pur (dw_and (dt_dnotin hr.u1 (de_var 4) (de_var 5)) (dw_and1 (dt_cmp (op_neD hr.u64) b_ne (de_F (de_lc (own := [("one", 10)]) [10] rfl (by rfl) sc__law_days.nd (di_seq (de_item hr.u1 (de_var 3) (de_var 4) (fun _ _ => rfl))) (blkOk_by (N := ["warren", "lookers", "looks", "rows", "where", "found", "going", "turn", "new", "lot_so", "one"]) (sc := defScope s__law_days) (by decide +kernel)) (fun _ _ _ _ _ => (dg_name (vs := [10]) sc__law_days.nd rfl (by first | exact Or.inl rfl | exact Or.inr rfl) (by decide))) (fun _ _ _ _ _ => (dts_one (dt_din hr.u1 (de_var 10) (de_var 5)))) (fun _ _ _ _ _ => (de_var 10)))) (de_F (de_lst da_nil)) (by rfl)))).pt) (ds_one (ds_expr (de_app (pe_bm PySem.F.plainAttrs_list PySem.F.slot_list_append PySem.F.type_list_append mt_append (pv 8) (pa_cons (de_var 4) pa_nil))))) ds_nil))) (ds_freeze 8 (ds_cons (ds_for (vs := [4]) PassesOwn.never (by rfl) (di_seq (de_var 8)) (dg_name (vs := [4]) sc__law_days.nd rfl (by first | exact Or.inl rfl | exact Or.inr rfl) (by decide)) (ds_one (ds_putD (ps_dput hr.u1 (pv 5) (de_var 4) (de_var 7) (by rfl))))) (ds_one (ds_set sc__law_days.nd rfl (by first | exact Or.inl rfl | exact Or.inr rfl) (de_cmp (op_neD hr.u64) b_ne (de_var 8) (de_F (de_lst da_nil)) (by rfl)))))))))) (ds_one (ds_retOwn 5)))))))
theorem fn__law_days {P : Program} {w : World} {K : PySem.W.Frag} {mg : Str → Option Value} {base : Heap} (D : Md K mg) {φ__law_lots : F0} (G__law_lots : FnOk P w K mg base CX0 1 D.a__law_lots D.d__law_lots ["holes", "most"] (spF0 K EW0 false φ__law_lots)) {φ__law_later : F0} (G__law_later : FnOk P w K mg base CX0 2 D.a__law_later D.d__law_later ["warren", "where", "lot"] (spF0 K EW0 false φ__law_later)) {φ : F0} (h : ∀ ds k x, φ ds k x → ds.length = 2 ∧ t__law_days φ__law_lots φ__law_later (endF0 false k x) (envF0 ["warren", "lookers", "looks", "rows", "where", "found", "going", "turn", "new", "lot_so", "one"] ds)) : FnOk P w K mg base CX0 3 D.a__law_days D.d__law_days ["warren", "lookers"] (spF0 K EW0 false φ) :=
  fn_F0 D.F__law_days sc__law_days rfl h fun cdv A outer s H E hr => der__law_days D G__law_lots G__law_later cdv A outer s H E hr

def t__law_met (φ__law_later : F0) : DS := (sSeq (sFor (diSeq (dVar 2)) (dgName 3) (sAsg 1 (dF0 φ__law_later (daCons (dVar 0) (daCons (dVar 1) (daCons (dVar 3) daNil)))))) (sRet (dVar 1)))
theorem der__law_met {P : Program} {w : World} {K : PySem.W.Frag} {mg : Str → Option Value} {base : Heap} (D : Md K mg) {φ__law_later : F0} (G__law_later : FnOk P w K mg base CX0 2 D.a__law_later D.d__law_later ["warren", "where", "lot"] (spF0 K EW0 false φ__law_later)) (cdv : Value) (A : Around) (outer : List PySem.Env) (s : Shared) (H : Hp) (E : XK)
    (hr : Room 2 (A.deeper (envOfC "_law_met" (defScope s__law_met) s.heap.objs.size D.a__law_met cdv))) : PSs (cxOf CX0 P w K mg base ["warren", "where", "told", "lot_so"] "_law_met" (defScope s__law_met) D.a__law_met cdv A outer s H E).nox (defBody s__law_met) (upS K W0 false (t__law_met φ__law_later)) :=
  (ds_cons (ds_for (vs := [3]) PassesOwn.never (by rfl) (di_seq (de_var 2)) (dg_name (vs := [3]) sc__law_met.nd rfl (by first | exact Or.inl rfl | exact Or.inr rfl) (by decide)) (ds_one (ds_set sc__law_met.nd rfl (by first | exact Or.inl rfl | exact Or.inr rfl) (de_f0 ((G__law_later).mono (by decide)) hr (by rfl) D.m__law_later D.F__law_later.kp D.b__law_later (da_cons (de_var 0) (da_cons (de_var 1) (da_cons (de_var 3) da_nil))))))) (ds_one (ds_ret (de_var 1))))
theorem fn__law_met {P : Program} {w : World} {K : PySem.W.Frag} {mg : Str → Option Value} {base : Heap} (D : Md K mg) {φ__law_later : F0} (G__law_later : FnOk P w K mg base CX0 2 D.a__law_later D.d__law_later ["warren", "where", "lot"] (spF0 K EW0 false φ__law_later)) {φ : F0} (h : ∀ ds k x, φ ds k x → ds.length = 3 ∧ t__law_met φ__law_later (endF0 false k x) (envF0 ["warren", "where", "told", "lot_so"] ds)) : FnOk P w K mg base CX0 3 D.a__law_met D.d__law_met ["warren", "where", "told"] (spF0 K EW0 false φ) :=
  fn_F0 D.F__law_met sc__law_met rfl h fun cdv A outer s H E hr => der__law_met D G__law_later cdv A outer s H E hr

def t__law_told_right (φ_plan : F0) (φ_fewest_days : F0) (φ__law_met : F0) (φ_surely : F0) : DS := (sSeq (sPar [false, false] [5, 6] (daCons (dF0 φ_plan (daCons (dVar 0) (daCons (dVar 1) (daCons (dVar 2) daNil)))) (daCons (dF0 φ_fewest_days (daCons (dVar 0) (daCons (dVar 1) (daCons (dVar 2) daNil)))) daNil))) (sSeq (sIf (dtOr (dtB (dOp neOp (dVar 6) (dVar 3))) (dtOr (dtTru (dIsi "bool" (dVar 6))) (dtB (dOp neOp (dOp isNoneOp (dVar 5) (dC .non)) (dOp isNoneOp (dVar 3) (dC .non)))))) (sRet (dC (.bl false))) sNext) (sSeq (sIf (dtB (dOp isNoneOp (dVar 5) (dC .non))) (sRet (dC (.bl true))) sNext) (sSeq (sIf (dtOr (dtNot (dtTru (dIsi "list" (dVar 5)))) (dtOr (dtB (dOp neOp (dCall lenF (daCons (dVar 5) daNil)) (dVar 3))) (dtB (dOp neOp (dF0 φ__law_met (daCons (dVar 0) (daCons (dVar 2) (daCons (dVar 5) daNil)))) (dTup daNil))))) (sRet (dC (.bl false))) sNext) (sSeq (sIf (dtB (dOp neOp (dLc (diSeq (dVar 5)) (dgName 7) (dtOr (dtB (dOp notInOp (dVar 7) (dVar 4))) (dtB (dOp gtD (dCall lenF (daCons (dVar 7) daNil)) (dVar 1)))) (dVar 7) [7]) (dLst daNil))) (sRet (dC (.bl false))) sNext) (sRet (dOp isBlOp (dF0 φ_surely (daCons (dVar 0) (daCons (dVar 1) (daCons (dVar 2) (daCons (dVar 5) daNil))))) (dC (.bl true)))))))))
theorem der__law_told_right {P : Program} {w : World} {K : PySem.W.Frag} {mg : Str → Option Value} {base : Heap} (D : Md K mg) {φ_plan : F0} (G_plan : FnOk P w K mg base CX0 6 D.a_plan D.d_plan ["warren", "lookers", "where"] (spF0 K EW0 false φ_plan)) {φ_fewest_days : F0} (G_fewest_days : FnOk P w K mg base CX0 6 D.a_fewest_days D.d_fewest_days ["warren", "lookers", "where"] (spF0 K EW0 false φ_fewest_days)) {φ__law_met : F0} (G__law_met : FnOk P w K mg base CX0 3 D.a__law_met D.d__law_met ["warren", "where", "told"] (spF0 K EW0 false φ__law_met)) {φ_surely : F0} (G_surely : FnOk P w K mg base CX0 6 D.a_surely D.d_surely ["warren", "lookers", "where", "thing"] (spF0 K EW0 false φ_surely)) (cdv : Value) (A : Around) (outer : List PySem.Env) (s : Shared) (H : Hp) (E : XK)
    (hr : Room 6 (A.deeper (envOfC "_law_told_right" (defScope s__law_told_right) s.heap.objs.size D.a__law_told_right cdv))) : PSs (cxOf CX0 P w K mg base ["warren", "lookers", "where", "due", "every", "told", "days", "lot_so"] "_law_told_right" (defScope s__law_told_right) D.a__law_told_right cdv A outer s H E).nox (defBody s__law_told_right) (upS K W0 false (t__law_told_right φ_plan φ_fewest_days φ__law_met φ_surely)) :=
  (ds_cons (ds_par2 (ms := [false, false]) (i := 5) (j := 6) rfl (ps_par (by rfl) sc__law_told_right.nd rfl rfl (by decide) rfl rfl (dm_frz (de_f0 ((G_plan).mono (by decide)) hr (by rfl) D.m_plan D.F_plan.kp D.b_plan (da_cons (de_var 0) (da_cons (de_var 1) (da_cons (de_var 2) da_nil)))) (dm_frz (de_f0 ((G_fewest_days).mono (by decide)) hr (by rfl) D.m_fewest_days D.F_fewest_days.kp D.b_fewest_days (da_cons (de_var 0) (da_cons (de_var 1) (da_cons (de_var 2) da_nil)))) dm_nil)) (by rfl))) (ds_cons (ds_if (dw_or (dt_cmp (op_neD hr.u64) b_ne (de_var 6) (de_var 3) (by rfl)) (dw_or (dt_tru (de_isi (T := "bool") (by decide) (by rfl) D.z_isinstance (pe_bltn (v := .ty "bool") (by rfl) D.z_bool (by decide +kernel) rfl) (de_var 6))) (dw_or1 (dt_cmp (op_neD hr.u64) b_ne (de_cmp op_isN b_isN (de_var 5) de_non (by rfl)) (de_cmp op_isN b_isN (de_var 3) de_non (by rfl)) (by rfl))))).pt (ds_one (ds_ret de_bl)) ds_nil) (ds_cons (ds_if (dt_cmp op_isN b_isN (de_var 5) de_non (by rfl)) (ds_one (ds_ret de_bl)) ds_nil) (ds_cons (ds_if (dw_or (dt_not (dt_tru (de_isi (T := "list") (by decide) (by rfl) D.z_isinstance (pe_bltn (v := .ty "list") (by rfl) D.z_list (by decide +kernel) rfl) (de_var 5)))) (dw_or (dt_cmp (op_neD hr.u64) b_ne (de_callB call_len_seq c_len (by rfl) D.z_len (by decide +kernel) (da_cons (de_var 5) da_nil)) (de_var 3) (by rfl)) (dw_or1 (dt_cmp (op_neD hr.u64) b_ne (de_f0 ((G__law_met).mono (by decide)) hr (by rfl) D.m__law_met D.F__law_met.kp D.b__law_met (da_cons (de_var 0) (da_cons (de_var 2) (da_cons (de_var 5) da_nil)))) (de_tup da_nil) (by rfl))))).pt (ds_one (ds_ret de_bl)) ds_nil) (ds_cons (ds_if (dt_cmp (op_neD hr.u64) b_ne (de_F (de_lc (own := [("lot_so", 7)]) [7] rfl (by rfl) sc__law_told_right.nd (di_seq (de_var 5)) (blkOk_by (N := ["warren", "lookers", "where", "due", "every", "told", "days", "lot_so"]) (sc := defScope s__law_told_right) (by decide +kernel)) (fun _ _ _ _ _ => (dg_name (vs := [7]) sc__law_told_right.nd rfl (by first | exact Or.inl rfl | exact Or.inr rfl) (by decide))) (fun _ _ _ _ _ => (dts_one (dw_or (dt_cmp (op_notInA hr.u65) b_notin (de_var 7) (de_var 4) (by rfl)) (dw_or1 (dt_cmp op_gt b_gt (de_callB call_len_seq c_len (by rfl) D.z_len (by decide +kernel) (da_cons (de_var 7) da_nil)) (de_var 1) (by rfl)))).pt)) (fun _ _ _ _ _ => (de_var 7)))) (de_F (de_lst da_nil)) (by rfl)) (ds_one (ds_ret de_bl)) ds_nil) (ds_one (ds_ret (de_cmp op_isBl b_isB (de_f0 ((G_surely).mono (by decide)) hr (by rfl) D.m_surely D.F_surely.kp D.b_surely (da_cons (de_var 0) (da_cons (de_var 1) (da_cons (de_var 2) (da_cons (de_var 5) da_nil))))) de_bl (by rfl)))))))))
theorem fn__law_told_right {P : Program} {w : World} {K : PySem.W.Frag} {mg : Str → Option Value} {base : Heap} (D : Md K mg) {φ_plan : F0} (G_plan : FnOk P w K mg base CX0 6 D.a_plan D.d_plan ["warren", "lookers", "where"] (spF0 K EW0 false φ_plan)) {φ_fewest_days : F0} (G_fewest_days : FnOk P w K mg base CX0 6 D.a_fewest_days D.d_fewest_days ["warren", "lookers", "where"] (spF0 K EW0 false φ_fewest_days)) {φ__law_met : F0} (G__law_met : FnOk P w K mg base CX0 3 D.a__law_met D.d__law_met ["warren", "where", "told"] (spF0 K EW0 false φ__law_met)) {φ_surely : F0} (G_surely : FnOk P w K mg base CX0 6 D.a_surely D.d_surely ["warren", "lookers", "where", "thing"] (spF0 K EW0 false φ_surely)) {φ : F0} (h : ∀ ds k x, φ ds k x → ds.length = 5 ∧ t__law_told_right φ_plan φ_fewest_days φ__law_met φ_surely (endF0 false k x) (envF0 ["warren", "lookers", "where", "due", "every", "told", "days", "lot_so"] ds)) : FnOk P w K mg base CX0 7 D.a__law_told_right D.d__law_told_right ["warren", "lookers", "where", "due", "every"] (spF0 K EW0 false φ) :=
  fn_F0 D.F__law_told_right sc__law_told_right rfl h fun cdv A outer s H E hr => der__law_told_right D G_plan G_fewest_days G__law_met G_surely cdv A outer s H E hr

def t_law (φ__law_bag : F0) (φ__law_warren : F1) (φ__law_of : F1) (φ__law_days : F0) (φ__law_lots : F0) (φ__law_told_right : F0) (φ__law_take : F1) (φ_surely : F0) (φ__law_met : F0) (φ_fewest_days : F0) : DS := (sSeq (sFor (diRng1 (dOp addA (dCall min2F (daCons (dCall lenF (daCons (dVar 0) daNil)) (daCons (dC (.int 5)) daNil))) (dC (.int 2)))) (dgName 1) (sSeq (sAsgO 2 (dF0 φ__law_bag (daCons (dVar 0) (daCons (dVar 1) daNil)))) (sSeq (sPar [false, false] [3, 4] (daCons (dF1 φ__law_warren 2 (daCons (dF1 φ__law_of 2 (daCons (dLst (daCons (dC (.int 4)) (daCons (dC (.int 6)) (daCons (dC (.int 6)) daNil)))) daNil)) daNil)) (daCons (dF1 φ__law_of 2 (daCons (dLst (daCons (dC (.int 1)) (daCons (dC (.int 1)) (daCons (dC (.int 1)) (daCons (dC (.int 2)) (daCons (dC (.int 2)) (daCons (dC (.int 3)) daNil))))))) daNil)) daNil))) (sSeq (sPar [false, false] [5, 6] (daCons (dF0 φ__law_days (daCons (dVar 3) (daCons (dVar 4) daNil))) (daCons (dF0 φ__law_lots (daCons (dOp ixD (dVar 3) (dC (.int 0))) (daCons (dOp ixD (dVar 3) (dC (.int 0))) daNil))) daNil))) (sSeq (sFor (diSeq (dOp catL (dLst (daCons (dOp ixD (dVar 6) (dUn negD (dC (.int 1)))) (daCons (dTupRg (dOp ixD (dVar 3) (dC (.int 0)))) (daCons (dTup daNil) daNil)))) (dLc (diRng1 (dC (.int 4))) (dgName 9) dtYes (dF1 φ__law_of 2 (daCons (dVar 6) daNil)) [9]))) (dgName 7) (sIf (dtNot (dtTru (dF0 φ__law_told_right (daCons (dVar 3) (daCons (dVar 4) (daCons (dVar 7) (daCons (dGetB (dVar 5) (dVar 7) (dC .non)) (daCons (dVar 6) daNil)))))))) (sRet (dC (.bl false))) sNext)) (sSeq (sAsg 7 (dF1 φ__law_of 2 (daCons (dVar 6) daNil))) (sSeq (sAsg 8 (dF0 φ__law_lots (daCons (dOp ixD (dVar 3) (dC (.int 0))) (daCons (dVar 4) daNil)))) (sFor (diRng1 (dC (.int 6))) (dgName 9) (sSeq (sAsg 10 (dLc (diRng1 (dF1 φ__law_take 2 (daCons (dC (.int 7)) daNil))) (dgName 16) dtYes (dF1 φ__law_of 2 (daCons (dVar 8) daNil)) [16])) (sSeq (sIf (dtB (dOp neOp (dF0 φ_surely (daCons (dVar 3) (daCons (dVar 4) (daCons (dVar 7) (daCons (dVar 10) daNil))))) (dOp eqOp (dF0 φ__law_met (daCons (dVar 3) (daCons (dVar 7) (daCons (dVar 10) daNil)))) (dTup daNil)))) (sRet (dC (.bl false))) sNext) (sSeq (sAsg 11 (dOp catL (dVar 10) (dLst (daCons (dTupRg (dOp addA (dVar 4) (dC (.int 1)))) daNil)))) (sSeq (sAsg 12 (dLst (daCons (dCall tupF (daCons (dVar 10) daNil)) (daCons (dOp catL (dVar 10) (dLst (daCons (dC .non) daNil))) (daCons (dOp catL (dVar 10) (dLst (daCons (dLst (daCons (dC (.int 0)) daNil)) daNil))) (daCons (dOp catL (dVar 10) (dLst (daCons (dTup (daCons (dC (.int 0)) (daCons (dC (.int 0)) daNil))) daNil))) (daCons (dC .non) (daCons (dOp repL (dLst (daCons (dTup daNil) daNil)) (dC (.int 1024))) (daCons (dVar 11) daNil))))))))) (sIf (dtB (dOp neOp (dLc (diSeq (dVar 12)) (dgName 17) (dtB (dOp notBlOp (dF0 φ_surely (daCons (dVar 3) (daCons (dVar 4) (daCons (dTup daNil) (daCons (dVar 17) daNil))))) (dC (.bl false)))) (dVar 17) [17]) (dLst daNil))) (sRet (dC (.bl false))) sNext))))))))))))) (sSeq (sAsg 13 (dTup (daCons (dC (.int 4)) (daCons (dTup (daCons (dTup (daCons (dC (.int 0)) (daCons (dC (.int 1)) daNil))) (daCons (dTup (daCons (dC (.int 1)) (daCons (dC (.int 2)) daNil))) (daCons (dTup (daCons (dC (.int 2)) (daCons (dC (.int 3)) daNil))) daNil)))) daNil)))) (sSeq (sAsg 14 (dLst (daCons (dF0 φ_fewest_days (daCons (dVar 13) (daCons (dC (.int 1)) (daCons (dTup (daCons (dC (.int 0)) (daCons (dC (.int 1)) (daCons (dC (.int 2)) (daCons (dC (.int 3)) daNil))))) daNil)))) (daCons (dF0 φ_fewest_days (daCons (dVar 13) (daCons (dC (.int 1)) (daCons (dTup (daCons (dC (.int 0)) (daCons (dC (.int 2)) daNil))) daNil)))) (daCons (dF0 φ_fewest_days (daCons (dVar 13) (daCons (dC (.int 4)) (daCons (dTup (daCons (dC (.int 1)) (daCons (dC (.int 2)) daNil))) daNil)))) daNil))))) (sSeq (sIf (dtB (dOp neOp (dVar 14) (dLst (daCons (dC (.int 4)) (daCons (dC (.int 2)) (daCons (dC (.int 1)) daNil)))))) (sRet (dC (.bl false))) sNext) (sSeq (sAsg 15 (dTup (daCons (dC (.int 3)) (daCons (dTup (daCons (dTup (daCons (dC (.int 0)) (daCons (dC (.int 1)) daNil))) (daCons (dTup (daCons (dC (.int 0)) (daCons (dC (.int 2)) daNil))) (daCons (dTup (daCons (dC (.int 1)) (daCons (dC (.int 2)) daNil))) daNil)))) daNil)))) (sSeq (sIf (dtOr (dtB (dOp notNoneOp (dF0 φ_fewest_days (daCons (dVar 15) (daCons (dC (.int 1)) (daCons (dTup (daCons (dC (.int 0)) (daCons (dC (.int 1)) daNil))) daNil)))) (dC .non))) (dtB (dOp neOp (dF0 φ_fewest_days (daCons (dVar 15) (daCons (dC (.int 2)) (daCons (dTup (daCons (dC (.int 0)) (daCons (dC (.int 1)) (daCons (dC (.int 2)) daNil)))) daNil)))) (dC (.int 2))))) (sRet (dC (.bl false))) sNext) (sRet (dOp isBlOp (dF0 φ_surely (daCons (dVar 15) (daCons (dC (.int 1)) (daCons (dTup (daCons (dC (.int 0)) daNil)) (daCons (dLst (daCons (dTup (daCons (dC (.int 0)) daNil)) daNil)) daNil))))) (dC (.bl true))))))))))
theorem der_law {P : Program} {w : World} {K : PySem.W.Frag} {mg : Str → Option Value} {base : Heap} (D : Md K mg) {φ__law_bag : F0} (G__law_bag : FnOk P w K mg base CX0 1 D.a__law_bag D.d__law_bag ["script", "k"] (spF0 K EW0 true φ__law_bag)) {φ__law_warren : F1} (G__law_warren : FnOk P w K mg base CX0 3 D.a__law_warren D.d__law_warren ["bag", "most"] (spF1 K EW0 φ__law_warren)) {φ__law_of : F1} (G__law_of : FnOk P w K mg base CX0 2 D.a__law_of D.d__law_of ["bag", "some"] (spF1 K EW0 φ__law_of)) {φ__law_days : F0} (G__law_days : FnOk P w K mg base CX0 3 D.a__law_days D.d__law_days ["warren", "lookers"] (spF0 K EW0 false φ__law_days)) {φ__law_lots : F0} (G__law_lots : FnOk P w K mg base CX0 1 D.a__law_lots D.d__law_lots ["holes", "most"] (spF0 K EW0 false φ__law_lots)) {φ__law_told_right : F0} (G__law_told_right : FnOk P w K mg base CX0 7 D.a__law_told_right D.d__law_told_right ["warren", "lookers", "where", "due", "every"] (spF0 K EW0 false φ__law_told_right)) {φ__law_take : F1} (G__law_take : FnOk P w K mg base CX0 1 D.a__law_take D.d__law_take ["bag", "count"] (spF1 K EW0 φ__law_take)) {φ_surely : F0} (G_surely : FnOk P w K mg base CX0 6 D.a_surely D.d_surely ["warren", "lookers", "where", "thing"] (spF0 K EW0 false φ_surely)) {φ__law_met : F0} (G__law_met : FnOk P w K mg base CX0 3 D.a__law_met D.d__law_met ["warren", "where", "told"] (spF0 K EW0 false φ__law_met)) {φ_fewest_days : F0} (G_fewest_days : FnOk P w K mg base CX0 6 D.a_fewest_days D.d_fewest_days ["warren", "lookers", "where"] (spF0 K EW0 false φ_fewest_days)) (cdv : Value) (A : Around) (outer : List PySem.Env) (s : Shared) (H : Hp) (E : XK)
    (hr : Room 7 (A.deeper (envOfC "law" (defScope s_law) s.heap.objs.size D.a_law cdv))) : PSs (cxOf CX0 P w K mg base ["script", "k", "bag", "warren", "lookers", "table", "every", "where", "looks", "turn", "drawn", "long", "bad", "path", "told", "ring", "day", "one"] "law" (defScope s_law) D.a_law cdv A outer s H E).nox (defBody s_law) (upS K W0 false (t_law φ__law_bag φ__law_warren φ__law_of φ__law_days φ__law_lots φ__law_told_right φ__law_take φ_surely φ__law_met φ_fewest_days)) :=
  (ds_cons (ds_for (vs := [1]) PassesOwn.never (by rfl) (di_rng1 (by rfl) D.z_range (de_op op_addA b_addA (de_callB (call_min2 (by rfl)) c_min2 (by rfl) D.z_min (by decide +kernel) (da_cons (de_callB call_len_seq c_len (by rfl) D.z_len (by decide +kernel) (da_cons (de_var 0) da_nil)) (da_cons de_int da_nil))) de_int)) (dg_name (vs := [1]) sc_law.nd rfl (by first | exact Or.inl rfl | exact Or.inr rfl) (by decide)) (ds_cons (ds_setO sc_law.nd rfl (by first | exact Or.inl rfl | exact Or.inr rfl) (de_f0F ((G__law_bag).mono (by decide)) hr (by rfl) D.m__law_bag D.F__law_bag.kp D.b__law_bag (da_cons (de_var 0) (da_cons (de_var 1) da_nil)))) (ds_cons (ds_parT (ms := [false, false]) (is := [3, 4]) (n := 2) rfl rfl (by decide) (ps_asg (pe_tup (dm_frz (de_f1 (i := 2) ((G__law_warren).mono (by decide)) hr (by rfl) D.m__law_warren D.F__law_warren.kp D.b__law_warren (pv 2) (da_cons (de_f1 (i := 2) ((G__law_of).mono (by decide)) hr (by rfl) D.m__law_of D.F__law_of.kp D.b__law_of (pv 2) (da_cons (de_F (de_lst (da_cons de_int (da_cons de_int (da_cons de_int da_nil))))) da_nil)) da_nil)) (dm_frz (de_f1 (i := 2) ((G__law_of).mono (by decide)) hr (by rfl) D.m__law_of D.F__law_of.kp D.b__law_of (pv 2) (da_cons (de_F (de_lst (da_cons de_int (da_cons de_int (da_cons de_int (da_cons de_int (da_cons de_int (da_cons de_int da_nil)))))))) da_nil)) dm_nil))) (pg_tup (by rfl) (pgs_cons (pg_name sc_law.nd rfl (by first | exact Or.inl rfl | exact Or.inr rfl)) (pgs_cons (pg_name sc_law.nd rfl (by first | exact Or.inl rfl | exact Or.inr rfl)) pgs_nil))))) (ds_cons (ds_parT (ms := [false, false]) (is := [5, 6]) (n := 2) rfl rfl (by decide) (ps_asg (pe_tup (dm_frz (de_f0 ((G__law_days).mono (by decide)) hr (by rfl) D.m__law_days D.F__law_days.kp D.b__law_days (da_cons (de_var 3) (da_cons (de_var 4) da_nil))) (dm_frz (de_f0 ((G__law_lots).mono (by decide)) hr (by rfl) D.m__law_lots D.F__law_lots.kp D.b__law_lots (da_cons (de_ix ix_seq b_ix (de_var 3) de_int (fun _ _ => rfl)) (da_cons (de_ix ix_seq b_ix (de_var 3) de_int (fun _ _ => rfl)) da_nil))) dm_nil))) (pg_tup (by rfl) (pgs_cons (pg_name sc_law.nd rfl (by first | exact Or.inl rfl | exact Or.inr rfl)) (pgs_cons (pg_name sc_law.nd rfl (by first | exact Or.inl rfl | exact Or.inr rfl)) pgs_nil))))) (ds_cons (ds_for (vs := [7]) PassesOwn.never (by rfl) (di_seq (de_F (de_opF op_cat b_catL (de_F (de_lst (da_cons (de_ix ix_seq b_ix (de_var 6) (de_un un_neg b_neg de_int) (fun _ _ => rfl)) (da_cons (de_tupRg (by rfl) (by rfl) D.z_tuple (by rfl) D.z_range (de_ix ix_seq b_ix (de_var 3) de_int (fun _ _ => rfl))) (da_cons (de_tup da_nil) da_nil))))) (de_F (de_lc (own := [("turn", 9)]) [9] rfl (by rfl) sc_law.nd (di_rng1 (by rfl) D.z_range de_int) (blkOk_by (N := ["script", "k", "bag", "warren", "lookers", "table", "every", "where", "looks", "turn", "drawn", "long", "bad", "path", "told", "ring", "day", "one"]) (sc := defScope s_law) (by decide +kernel)) (fun _ _ _ _ _ => (dg_name (vs := [9]) sc_law.nd rfl (by first | exact Or.inl rfl | exact Or.inr rfl) (by decide))) (fun _ _ _ _ _ => dts_nil) (fun _ _ _ _ _ => (de_f1 (i := 2) ((G__law_of).mono (by decide)) hr (by rfl) D.m__law_of D.F__law_of.kp D.b__law_of (pv 2) (da_cons (de_var 6) da_nil)))))))) (dg_name (vs := [7]) sc_law.nd rfl (by first | exact Or.inl rfl | exact Or.inr rfl) (by decide)) (ds_one (ds_if (dt_not (dt_tru (de_f0 ((G__law_told_right).mono (by decide)) hr (by rfl) D.m__law_told_right D.F__law_told_right.kp D.b__law_told_right (da_cons (de_var 3) (da_cons (de_var 4) (da_cons (de_var 7) (da_cons (de_get2 hr.u1 (de_var 5) (de_var 7) de_non ⟨rfl, rfl, rfl, rfl⟩) (da_cons (de_var 6) da_nil)))))))) (ds_one (ds_ret de_bl)) ds_nil))) (ds_cons (ds_set sc_law.nd rfl (by first | exact Or.inl rfl | exact Or.inr rfl) (de_f1 (i := 2) ((G__law_of).mono (by decide)) hr (by rfl) D.m__law_of D.F__law_of.kp D.b__law_of (pv 2) (da_cons (de_var 6) da_nil))) (ds_cons (ds_set sc_law.nd rfl (by first | exact Or.inl rfl | exact Or.inr rfl) (de_f0 ((G__law_lots).mono (by decide)) hr (by rfl) D.m__law_lots D.F__law_lots.kp D.b__law_lots (da_cons (de_ix ix_seq b_ix (de_var 3) de_int (fun _ _ => rfl)) (da_cons (de_var 4) da_nil)))) (ds_one (ds_for (vs := [9]) PassesOwn.never (by rfl) (di_rng1 (by rfl) D.z_range de_int) (dg_name (vs := [9]) sc_law.nd rfl (by first | exact Or.inl rfl | exact Or.inr rfl) (by decide)) (ds_cons (ds_setLc (own := [("day", 16)]) [16] rfl (by rfl) sc_law.nd rfl rfl (sw_true rfl rfl rfl (by decide +kernel)) (di_rng1 (by rfl) D.z_range (de_f1 (i := 2) ((G__law_take).mono (by decide)) hr (by rfl) D.m__law_take D.F__law_take.kp D.b__law_take (pv 2) (da_cons de_int da_nil))) (blkOk_by (N := ["script", "k", "bag", "warren", "lookers", "table", "every", "where", "looks", "turn", "drawn", "long", "bad", "path", "told", "ring", "day", "one"]) (sc := defScope s_law) (by decide +kernel)) (fun _ _ _ _ _ => (dg_name (vs := [16]) sc_law.nd rfl (by first | exact Or.inl rfl | exact Or.inr rfl) (by decide))) (fun _ _ _ _ _ => dts_nil) (fun _ _ _ _ _ => (de_f1 (i := 2) ((G__law_of).mono (by decide)) hr (by rfl) D.m__law_of D.F__law_of.kp D.b__law_of (pv 2) (da_cons (de_var 8) da_nil)))) (ds_cons (ds_if (dt_cmp (op_neD hr.u64) b_ne (de_f0 ((G_surely).mono (by decide)) hr (by rfl) D.m_surely D.F_surely.kp D.b_surely (da_cons (de_var 3) (da_cons (de_var 4) (da_cons (de_var 7) (da_cons (de_var 10) da_nil))))) (de_cmp (op_eqD hr.u64) b_eq (de_f0 ((G__law_met).mono (by decide)) hr (by rfl) D.m__law_met D.F__law_met.kp D.b__law_met (da_cons (de_var 3) (da_cons (de_var 7) (da_cons (de_var 10) da_nil)))) (de_tup da_nil) (by rfl)) (by rfl)) (ds_one (ds_ret de_bl)) ds_nil) (ds_cons (ds_set sc_law.nd rfl (by first | exact Or.inl rfl | exact Or.inr rfl) (de_F (de_opF op_cat b_catL (de_var 10) (de_F (de_lst (da_cons (de_tupRg (by rfl) (by rfl) D.z_tuple (by rfl) D.z_range (de_op op_addA b_addA (de_var 4) de_int)) da_nil)))))) (ds_cons (ds_set sc_law.nd rfl (by first | exact Or.inl rfl | exact Or.inr rfl) (de_F (de_lst (da_cons (de_callT call_tuple_of c_tuple (by rfl) D.z_tuple (by decide +kernel) (da_cons (de_var 10) da_nil)) (da_cons (de_F (de_opF op_cat b_catL (de_var 10) (de_F (de_lst (da_cons de_non da_nil))))) (da_cons (de_F (de_opF op_cat b_catL (de_var 10) (de_F (de_lst (da_cons (de_F (de_lst (da_cons de_int da_nil))) da_nil))))) (da_cons (de_F (de_opF op_cat b_catL (de_var 10) (de_F (de_lst (da_cons (de_tup (da_cons de_int (da_cons de_int da_nil))) da_nil))))) (da_cons de_non (da_cons (de_F (de_opF op_rep b_repL (de_F (de_lst (da_cons (de_tup da_nil) da_nil))) de_int)) (da_cons (de_var 11) da_nil)))))))))) (ds_one (ds_if (dt_cmp (op_neD hr.u64) b_ne (de_F (de_lc (own := [("one", 17)]) [17] rfl (by rfl) sc_law.nd (di_seq (de_var 12)) (blkOk_by (N := ["script", "k", "bag", "warren", "lookers", "table", "every", "where", "looks", "turn", "drawn", "long", "bad", "path", "told", "ring", "day", "one"]) (sc := defScope s_law) (by decide +kernel)) (fun _ _ _ _ _ => (dg_name (vs := [17]) sc_law.nd rfl (by first | exact Or.inl rfl | exact Or.inr rfl) (by decide))) (fun _ _ _ _ _ => (dts_one (dt_cmp op_notBl b_notB (de_f0 ((G_surely).mono (by decide)) hr (by rfl) D.m_surely D.F_surely.kp D.b_surely (da_cons (de_var 3) (da_cons (de_var 4) (da_cons (de_tup da_nil) (da_cons (de_var 17) da_nil))))) de_bl (by rfl)))) (fun _ _ _ _ _ => (de_var 17)))) (de_F (de_lst da_nil)) (by rfl)) (ds_one (ds_ret de_bl)) ds_nil))))))))))))))) (ds_cons (ds_set sc_law.nd rfl (by first | exact Or.inl rfl | exact Or.inr rfl) (de_tup (da_cons de_int (da_cons (de_tup (da_cons (de_tup (da_cons de_int (da_cons de_int da_nil))) (da_cons (de_tup (da_cons de_int (da_cons de_int da_nil))) (da_cons (de_tup (da_cons de_int (da_cons de_int da_nil))) da_nil)))) da_nil)))) (ds_cons (ds_set sc_law.nd rfl (by first | exact Or.inl rfl | exact Or.inr rfl) (de_F (de_lst (da_cons (de_f0 ((G_fewest_days).mono (by decide)) hr (by rfl) D.m_fewest_days D.F_fewest_days.kp D.b_fewest_days (da_cons (de_var 13) (da_cons de_int (da_cons (de_tup (da_cons de_int (da_cons de_int (da_cons de_int (da_cons de_int da_nil))))) da_nil)))) (da_cons (de_f0 ((G_fewest_days).mono (by decide)) hr (by rfl) D.m_fewest_days D.F_fewest_days.kp D.b_fewest_days (da_cons (de_var 13) (da_cons de_int (da_cons (de_tup (da_cons de_int (da_cons de_int da_nil))) da_nil)))) (da_cons (de_f0 ((G_fewest_days).mono (by decide)) hr (by rfl) D.m_fewest_days D.F_fewest_days.kp D.b_fewest_days (da_cons (de_var 13) (da_cons de_int (da_cons (de_tup (da_cons de_int (da_cons de_int da_nil))) da_nil)))) da_nil)))))) (ds_cons (ds_if (dt_cmp (op_neD hr.u64) b_ne (de_var 14) (de_F (de_lst (da_cons de_int (da_cons de_int (da_cons de_int da_nil))))) (by rfl)) (ds_one (ds_ret de_bl)) ds_nil) (ds_cons (ds_set sc_law.nd rfl (by first | exact Or.inl rfl | exact Or.inr rfl) (de_tup (da_cons de_int (da_cons (de_tup (da_cons (de_tup (da_cons de_int (da_cons de_int da_nil))) (da_cons (de_tup (da_cons de_int (da_cons de_int da_nil))) (da_cons (de_tup (da_cons de_int (da_cons de_int da_nil))) da_nil)))) da_nil)))) (ds_cons (ds_if (dw_or (dt_cmp op_notN b_notN (de_f0 ((G_fewest_days).mono (by decide)) hr (by rfl) D.m_fewest_days D.F_fewest_days.kp D.b_fewest_days (da_cons (de_var 15) (da_cons de_int (da_cons (de_tup (da_cons de_int (da_cons de_int da_nil))) da_nil)))) de_non (by rfl)) (dw_or1 (dt_cmp (op_neD hr.u64) b_ne (de_f0 ((G_fewest_days).mono (by decide)) hr (by rfl) D.m_fewest_days D.F_fewest_days.kp D.b_fewest_days (da_cons (de_var 15) (da_cons de_int (da_cons (de_tup (da_cons de_int (da_cons de_int (da_cons de_int da_nil)))) da_nil)))) de_int (by rfl)))).pt (ds_one (ds_ret de_bl)) ds_nil) (ds_one (ds_ret (de_cmp op_isBl b_isB (de_f0 ((G_surely).mono (by decide)) hr (by rfl) D.m_surely D.F_surely.kp D.b_surely (da_cons (de_var 15) (da_cons de_int (da_cons (de_tup (da_cons de_int da_nil)) (da_cons (de_F (de_lst (da_cons (de_tup (da_cons de_int da_nil)) da_nil))) da_nil))))) de_bl (by rfl))))))))))
theorem fn_law {P : Program} {w : World} {K : PySem.W.Frag} {mg : Str → Option Value} {base : Heap} (D : Md K mg) {φ__law_bag : F0} (G__law_bag : FnOk P w K mg base CX0 1 D.a__law_bag D.d__law_bag ["script", "k"] (spF0 K EW0 true φ__law_bag)) {φ__law_warren : F1} (G__law_warren : FnOk P w K mg base CX0 3 D.a__law_warren D.d__law_warren ["bag", "most"] (spF1 K EW0 φ__law_warren)) {φ__law_of : F1} (G__law_of : FnOk P w K mg base CX0 2 D.a__law_of D.d__law_of ["bag", "some"] (spF1 K EW0 φ__law_of)) {φ__law_days : F0} (G__law_days : FnOk P w K mg base CX0 3 D.a__law_days D.d__law_days ["warren", "lookers"] (spF0 K EW0 false φ__law_days)) {φ__law_lots : F0} (G__law_lots : FnOk P w K mg base CX0 1 D.a__law_lots D.d__law_lots ["holes", "most"] (spF0 K EW0 false φ__law_lots)) {φ__law_told_right : F0} (G__law_told_right : FnOk P w K mg base CX0 7 D.a__law_told_right D.d__law_told_right ["warren", "lookers", "where", "due", "every"] (spF0 K EW0 false φ__law_told_right)) {φ__law_take : F1} (G__law_take : FnOk P w K mg base CX0 1 D.a__law_take D.d__law_take ["bag", "count"] (spF1 K EW0 φ__law_take)) {φ_surely : F0} (G_surely : FnOk P w K mg base CX0 6 D.a_surely D.d_surely ["warren", "lookers", "where", "thing"] (spF0 K EW0 false φ_surely)) {φ__law_met : F0} (G__law_met : FnOk P w K mg base CX0 3 D.a__law_met D.d__law_met ["warren", "where", "told"] (spF0 K EW0 false φ__law_met)) {φ_fewest_days : F0} (G_fewest_days : FnOk P w K mg base CX0 6 D.a_fewest_days D.d_fewest_days ["warren", "lookers", "where"] (spF0 K EW0 false φ_fewest_days)) {φ : F0} (h : ∀ ds k x, φ ds k x → ds.length = 1 ∧ t_law φ__law_bag φ__law_warren φ__law_of φ__law_days φ__law_lots φ__law_told_right φ__law_take φ_surely φ__law_met φ_fewest_days (endF0 false k x) (envF0 ["script", "k", "bag", "warren", "lookers", "table", "every", "where", "looks", "turn", "drawn", "long", "bad", "path", "told", "ring", "day", "one"] ds)) : FnOk P w K mg base CX0 8 D.a_law D.d_law ["script"] (spF0 K EW0 false φ) :=
  fn_F0 D.F_law sc_law rfl h fun cdv A outer s H E hr => der_law D G__law_bag G__law_warren G__law_of G__law_days G__law_lots G__law_told_right G__law_take G_surely G__law_met G_fewest_days cdv A outer s H E hr
end K02

set_option Elab.async false
set_option linter.all false
set_option maxRecDepth 100000
set_option maxHeartbeats 4000000
namespace K02
open PySem PySem.Spec PyProof.Rows L2 FX MA
local macro_rules
  | `(tactic| and_intros) => `(tactic| simp (config := { failIfUnchanged := false }) only [sNext, sSeq, sRet, sRetN, sRetOwn, sAsg, sAsgO, sExpr, sIf, sBreak, sCont, sFreeze, sPar, sUnp, sSetL, sPutD, sAugI, sAugL,
  dVar, dC, dOp, dUn, daNil, daCons, dTup, dLst, dCall, dtB, dtTru, dtNot, dtAnd, dtOr, dAndV, dOrV, dNotV, dIf, dChain, dPur, dPurF, dtPur, dTake, dGetA, dGetB, dApp, dPop, dPopAt, dIns0, dItemO, dIsi, dSl, dpN, dpS, dSortSet, dMinP, dLstRg, dTupRg, dF0, dF1,
  diSeq, diRng1, diRng2, diZip, diEnum, diRev, dgName, dgTup, setAll, setM, endF0, endF1, envF0, envF1, wipeE, dtYes, fls, mineD, putE, Sl.put, Sl.seen, x_itT, x_itL, x_itS,
  List.map_cons, List.map_nil, List.length_cons, List.length_nil, List.getElem?_cons_zero, List.getElem?_cons_succ, List.set_cons_zero, List.set_cons_succ, List.replicate, List.append_assoc, List.cons_append, List.nil_append,
  Option.some.injEq, Sl.frz.injEq, Sl.own.injEq, Sl.par.injEq, D.int.injEq, D.bl.injEq, D.tup.injEq, D.lst.injEq, D.dI.injEq, D.dT.injEq, List.cons.injEq, exists_eq_left', exists_eq_left, exists_eq_right, exists_eq_right', exists_eq, exists_eq', Int.reducePow, Int.reduceNeg, Int.reduceLT, Int.reduceLE, Int.reduceMul, Int.reduceAdd, Int.reduceSub, Int.reduceToNat, Nat.reducePow, x_na10, or_true, true_or, and_self, x_set0, x_set1, x_ixN20, x_ixN21, and_true, true_and, Nat.reduceAdd, Nat.reduceSub, Nat.reduceLT, Nat.reduceLeDiff, Int.reduceEq, decide_true, decide_false, Int.cast_ofNat_Int,
  x_sub, x_add, x_addT, x_mul, x_div, x_mod, x_pow, x_le, x_gt, x_ge, x_lt, x_neg, x_catL, x_eq, x_ne, x_isN, x_notN, x_isB, x_notB, x_lenT, x_lenL, x_lenS, x_min, x_max, x_intI, x_intB, x_tupL, x_tupT, x_lstL, x_lstT, x_ixT0, x_ixT1, x_ixL0, x_ixL1, tru_non, tru_bl, tru_int, tru_tup, tru_lst, ty_non, ty_bl, ty_int, ty_str, ty_tup, ty_lst, x_slT, x_slL, and_assoc, exists_and_left, imm, imms,
  reduceIte, Bool.not_true, Bool.not_false, Bool.false_eq_true, Option.map_some, if_true, if_false, false_and, and_false, reduceCtorEq, exists_const, exists_false, false_or, or_false, Bool.true_and, Bool.and_true])
local macro_rules
  | `(tactic| subst_eqs) => `(tactic| simp (config := { failIfUnchanged := false }) only [x_w0, x_w1, x_ty, x_tyT, x_truT, x_lenI, x_itI, Option.some.injEq, exists_eq_left', isi1, isi2, isi3, isi4, isi5, isi6, isi7, isi8, isi9, isi10, isi11, isi12, isi13, isi14, isi15, isi16, isi17, isi18, isi19, isi20, isi21, isi22, isi23, isi24, Bool.not_true, Bool.not_false, if_true, if_false, Bool.false_eq_true, reduceIte])
local macro_rules
  | `(tactic| ac_rfl) => `(tactic| (try and_intros; try subst_eqs; try and_intros; try subst_eqs; try and_intros))
theorem p_is_from (ds : List D) (k : D → Prop) (x : Ex → Prop) (h : fIsFrom ds k x) : ds.length = 3 ∧ t_is_from (endF0 false k x) (envF0 ["thing", "low", "high"] ds) := by
  obtain ⟨d, lo, hi, rfl, ht, hk⟩ := h
  refine ⟨rfl, ?_⟩
  unfold t_is_from
  and_intros
  cases d with
  | int i =>
    and_intros; subst_eqs
    unfold isFromD at hk
    simp only [] at hk
    by_cases h : lo ≤ i
    · rw [decide_eq_true h]; rw [decide_eq_true h] at hk; and_intros; simpa using hk
    · rw [decide_eq_false h]; rw [decide_eq_false h] at hk; and_intros; simpa using hk
  | bl b => and_intros; subst_eqs; exact hk
  | non => and_intros; subst_eqs; exact hk
  | str _ => and_intros; subst_eqs; exact hk
  | tup _ => and_intros; subst_eqs; exact hk
  | lst _ => and_intros; subst_eqs; exact hk
  | dI _ => cases ht
  | dT _ => cases ht
  | scr _ => cases ht
  | obj _ _ => cases ht
theorem p_is_passage (ds : List D) (k : D → Prop) (x : Ex → Prop) (h : fIsPassage ds k x) : ds.length = 2 ∧ t_is_passage fIsFrom (endF0 false k x) (envF0 ["holes", "thing", "one"] ds) := by
  obtain ⟨n, p, rfl, hp, hk⟩ := h
  refine ⟨rfl, ?_⟩
  unfold t_is_passage prE tupI
  ac_rfl
  refine lc_go [.int p.1, .int p.2] _ (fun e => some (.bl (isFromD e 0 ((n : Int) - 1)))) (fun K hK => by ac_rfl; exact hK) (by simp) (fun e he J hJ => ?_) ?_
  · ac_rfl
    refine ⟨e, 0, _, rfl, ?_, hJ⟩
    rcases List.mem_cons.mp he with rfl | he
    · rfl
    · rw [List.mem_singleton.mp he]; rfl
  · rw [fm_some, allF_map]
    have : ([D.int p.1, D.int p.2].all fun e => isFromD e 0 ((n : Int) - 1)) = true := by
      simp [isFromD]; omega
    rw [this]
    ac_rfl
    rw [decide_eq_true (by omega)]
    exact hk
theorem pl_ty {n : Nat} {d : D} (h : plD n d = true) : (tyD d).isSome = true := by
  cases d <;> first | rfl | (cases n <;> cases h)
theorem zip_len : ∀ a b : List D, (zipD a b).length ≤ a.length
  | [], _ => by simp [zipD]
  | _ :: _, [] => by simp [zipD]
  | a :: as, b :: bs => by
    have := zip_len as bs
    simp [zipD]; omega
theorem cut_tail (es : List D) : FX.cutD es (some 1) none = es.tail := by
  unfold FX.cutD
  rw [show HT.sIx es.length 0 (some 1) = min 1 es.length from HT.sIx_nat es.length 0 1, HT.sIx_none]
  cases es with
  | nil => rfl
  | cons x r =>
    rw [show min 1 (x :: r).length = 1 by rw [List.length_cons]; omega]
    show (List.take ((x :: r).length - 1) r) = r
    rw [List.length_cons, Nat.add_sub_cancel]
    exact List.take_length
theorem zip_tail : ∀ (n : Int) (es : List D), es.all (fun e => isFromD e 0 n) = true → (zipD es es.tail).all (fun d => match d with | .tup [.int a, .int b] => decide (a < b) | _ => true) = incrD es ∧ ∀ d ∈ zipD es es.tail, ∃ a b, d = .tup [.int a, .int b]
  | n, [], _ => ⟨rfl, fun d hd => nomatch hd⟩
  | n, [a], _ => ⟨by cases a <;> rfl, fun d hd => nomatch hd⟩
  | n, a :: b :: r, h => by
    rw [List.all_cons, Bool.and_eq_true] at h
    obtain ⟨h1, h2⟩ := zip_tail n (b :: r) h.2
    have h3 := h.2
    rw [List.all_cons, Bool.and_eq_true] at h3
    cases a with
    | int i =>
      cases b with
      | int j =>
        refine ⟨?_, fun d hd => ?_⟩
        · show (decide (i < j) && (zipD (D.int j :: r) r).all _) = (decide (i < j) && incrD (D.int j :: r))
          rw [← h1]; rfl
        · rcases List.mem_cons.mp hd with rfl | hd
          · exact ⟨i, j, rfl⟩
          · exact h2 d hd
      | _ => exact absurd h3.1 (by simp [isFromD])
    | _ => exact absurd h.1 (by simp [isFromD])
theorem p_good_lot (ds : List D) (k : D → Prop) (x : Ex → Prop) (h : fGoodLot ds k x) : ds.length = 2 ∧ t_good_lot fIsFrom (endF0 false k x) (envF0 ["warren", "thing", "hole", "one", "other"] ds) := by
  obtain ⟨w, d, rfl, hp, hl, hk⟩ := h
  refine ⟨rfl, ?_⟩
  unfold t_good_lot
  and_intros
  cases d with
  | tup es => 
    and_intros; subst_eqs
    refine lc_go es _ (fun e => some (.bl (isFromD e 0 ((w.n : Int) - 1)))) (fun K hK => by and_intros; exact hK) (by have : es.length ≤ 1000 := hl; omega) (fun e he J hJ => ?_) ?_
    · ac_rfl
      exact ⟨e, 0, _, rfl, pl_ty (plDs_iff.mp hp e he), hJ⟩
    · rw [fm_some, allF_map]
      ac_rfl
      cases ha : es.all fun e => isFromD e 0 ((w.n : Int) - 1) with
      | false =>
        ac_rfl
        unfold goodLotD at hk
        simp only [ha, Bool.false_and] at hk
        exact hk
      | true =>
        ac_rfl
        obtain ⟨z1, z2⟩ := zip_tail _ _ ha
        refine lc_go (zipD es es.tail) _ (fun d => some (.bl (match d with | .tup [.int a, .int b] => decide (a < b) | _ => true))) (fun K hK => by
          ac_rfl
          rw [cut_tail]
          exact hK) (by have := zip_len es es.tail; have : es.length ≤ 1000 := hl; omega) (fun d hd J hJ => ?_) ?_
        · obtain ⟨a, b, rfl⟩ := z2 d hd
          ac_rfl
          exact hJ
        · rw [fm_some, allF_map, z1]
          ac_rfl
          unfold goodLotD at hk
          simp only [ha, Bool.true_and] at hk
          exact hk
  | int i => and_intros; subst_eqs; exact hk
  | bl b => and_intros; subst_eqs; exact hk
  | non => and_intros; subst_eqs; exact hk
  | str _ => and_intros; subst_eqs; exact hk
  | lst _ => and_intros; subst_eqs; exact hk
  | dI _ => cases hp
  | dT _ => cases hp
  | scr _ => cases hp
  | obj _ _ => cases hp
theorem pl_prs {n : Nat} (E : List (Int × Int)) : plDs (n + 1) (E.map prE) = true := by
  rw [plDs_iff]
  intro d hd
  obtain ⟨p, _, rfl⟩ := List.mem_map.mp hd
  exact pl_tupI n _
theorem zipD_map {α : Type} (f : α → D) : ∀ l : List α, zipD (l.map f) (l.map f).tail = (l.zip l.tail).map fun q => .tup [f q.1, f q.2]
  | [] => rfl
  | [a] => rfl
  | a :: b :: r => by
    show D.tup [f a, f b] :: zipD ((b :: r).map f) ((b :: r).map f).tail = _
    rw [zipD_map f (b :: r)]; rfl
theorem asc_zip {w : Wn} (ok : WOk w) : ((w.E.zip w.E.tail).all fun q => decide ([q.1.1, q.1.2] < [q.2.1, q.2.2])) = true := by
  have asc := ok.asc
  generalize w.E = E at asc
  rw [List.all_eq_true]
  rintro ⟨p, q⟩ h
  have : ltE p q := by
    induction E with
    | nil => cases h
    | cons a E ih =>
      cases E with
      | nil => cases h
      | cons b E =>
        rcases List.mem_cons.mp h with e | h
        · cases e; exact (List.pairwise_cons.mp asc).1 _ (List.mem_cons_self ..)
        · exact ih (List.pairwise_cons.mp asc).2 h
  unfold ltE at this
  simp only [decide_eq_true_iff, List.cons_lt_cons_iff]
  rcases this with h | ⟨h1, h2⟩
  · exact .inl h
  · exact .inr ⟨h1, .inl h2⟩
theorem rangeL_upto (n : Nat) : rangeL 0 (n : Int) = (upto n).map D.int := by
  unfold rangeL upto
  rw [List.map_map]
  have : ((n : Int) - 0).toNat = n := by omega
  rw [this]
  refine List.map_congr_left fun i _ => ?_
  simp
theorem p_is_warren (ds : List D) (k : D → Prop) (x : Ex → Prop) (h : fIsWarren ds k x) : ds.length = 1 ∧ t_is_warren fIsFrom fIsPassage (endF0 false k x) (envF0 ["thing", "holes", "passages", "one", "other", "hole"] ds) := by
  obtain ⟨w, rfl, ok, hk⟩ := h
  refine ⟨rfl, ?_⟩
  have hlo := ok.lo
  have hhi := ok.hi
  have hE := len_E ok
  unfold t_is_warren wD
  ac_rfl
  refine ⟨_, _, _, rfl, rfl, ?_⟩
  have : isFromD (.int w.n) 2 10 = true := by simp [isFromD]; omega
  rw [this]
  ac_rfl
  refine lc_go (w.E.map prE) _ (fun e => some (.bl true)) (fun K hK => by ac_rfl; exact hK) (by rw [List.length_map]; omega) (fun e he J hJ => ?_) ?_
  · obtain ⟨p, hp, rfl⟩ := List.mem_map.mp he
    ac_rfl
    exact ⟨w.n, p, rfl, ok.rng p hp, hJ⟩
  · rw [fm_some, allF_map]
    have : ((w.E.map prE).all fun _ => true) = true := by simp
    rw [this]
    ac_rfl
    refine lc_go ((w.E.zip w.E.tail).map fun q => .tup [prE q.1, prE q.2]) _ (fun d => some (.bl true)) (fun K hK => by
      ac_rfl
      rw [cut_tail, zipD_map]
      exact hK) (by rw [List.length_map, List.length_zip]; omega) (fun d hd J hJ => ?_) ?_
    · obtain ⟨q, hq, rfl⟩ := List.mem_map.mp hd
      ac_rfl
      refine ⟨_, ltD_tup _ _, ?_⟩
      have := List.all_eq_true.mp (asc_zip ok) q hq
      rw [this]
      exact hJ
    · rw [fm_some, allF_map]
      have : ((((w.E.zip w.E.tail).map fun q => D.tup [prE q.1, prE q.2])).all fun _ => true) = true := by simp
      rw [this]
      ac_rfl
      refine lc_go ((upto w.n).map D.int) _ (fun d => some (.bl true)) (fun K hK => by
        ac_rfl
        refine ⟨by omega, by omega, ?_⟩
        rw [rangeL_upto]
        exact hK) (by rw [List.length_map, len_upto]; omega) (fun d hd J hJ => ?_) ?_
      · obtain ⟨h, hh, rfl⟩ := List.mem_map.mp hd
        have hr := mem_upto.mp hh
        ac_rfl
        refine lc_go (w.E.map prE) _ (fun e => match e with | .tup [.int a, .int b] => some (.bl (decide (h = a ∨ h = b))) | _ => none) (fun K hK => by ac_rfl; exact hK) (by rw [List.length_map]; omega) (fun e he J hJ => ?_) ?_
        · obtain ⟨p, hp, rfl⟩ := List.mem_map.mp he
          ac_rfl
          have e1 : inOp (.int h) (prE p) = some (.bl (decide (h = p.1 ∨ h = p.2))) := by
            show inOp (.int h) (tupI [p.1, p.2]) = _
            rw [inOp_ints]
            congr 2
            simp
          rw [e1]
          ac_rfl
          exact hJ
        · have e1 : (w.E.map prE).filterMap (fun e => match e with | .tup [.int a, .int b] => some (D.bl (decide (h = a ∨ h = b))) | _ => none) = w.E.map fun p => D.bl (decide (h = p.1 ∨ h = p.2)) := by
            rw [List.filterMap_map]
            exact fm_some (fun p : Int × Int => D.bl (decide (h = p.1 ∨ h = p.2))) w.E
          rw [e1, anyF_map]
          have : (w.E.any fun p => decide (h = p.1 ∨ h = p.2)) = true := by
            obtain ⟨p, hp, hc⟩ := ok.cov h hr.1 hr.2
            exact List.any_eq_true.mpr ⟨p, hp, decide_eq_true hc⟩
          rw [this]
          ac_rfl
          exact hJ
      · rw [fm_some, allF_map]
        have : (((upto w.n).map D.int).all fun _ => true) = true := by simp
        rw [this]
        ac_rfl
        exact hk
theorem p_look_warren (ds : List D) (k : D → Prop) (x : Ex → Prop) (h : fLookWarren ds k x) : ds.length = 1 ∧ t_look_warren fIsWarren (endF0 false k x) (envF0 ["warren"] ds) := by
  obtain ⟨w, rfl, ok, hk⟩ := h
  refine ⟨rfl, ?_⟩
  unfold t_look_warren
  ac_rfl
  exact ⟨w, rfl, ok, by ac_rfl; exact hk⟩
theorem p_look_lookers (ds : List D) (k : D → Prop) (x : Ex → Prop) (h : fLookLookers ds k x) : ds.length = 1 ∧ t_look_lookers fIsFrom (endF0 false k x) (envF0 ["lookers"] ds) := by
  obtain ⟨m, rfl, hm, hk⟩ := h
  refine ⟨rfl, ?_⟩
  unfold t_look_lookers
  ac_rfl
  refine ⟨_, _, _, rfl, rfl, ?_⟩
  have : isFromD (.int m) 1 4 = true := by simp [isFromD]; omega
  rw [this]
  ac_rfl
  exact hk
theorem goodLot_ok : ∀ {n : Nat} {l : List Int}, goodLotD n (tupI l) = true ↔ LotOk n l := by
  intro n l
  have h1 : incrD (l.map D.int) = incr l := by
    induction l with
    | nil => rfl
    | cons a l ih =>
      cases l with
      | nil => rfl
      | cons b r =>
        show (decide (a < b) && incrD ((b :: r).map D.int)) = (decide (a < b) && incr (b :: r))
        rw [ih]
  show ((l.map D.int).all (fun e => isFromD e 0 ((n : Int) - 1)) && incrD (l.map D.int)) = true ↔ _
  rw [h1, Bool.and_eq_true, incr_asc, List.all_map, List.all_eq_true]
  unfold LotOk
  constructor
  · rintro ⟨h1, h2⟩
    refine ⟨h2, fun z hz => ?_⟩
    have := h1 z hz
    simp [isFromD] at this
    omega
  · rintro ⟨h1, h2⟩
    refine ⟨fun z hz => ?_, h1⟩
    have := h2 z hz
    simp [isFromD]
    omega
theorem p_look_lot (ds : List D) (k : D → Prop) (x : Ex → Prop) (h : fLookLot ds k x) : ds.length = 2 ∧ t_look_lot fGoodLot (endF0 false k x) (envF0 ["warren", "lot"] ds) := by
  obtain ⟨w, l, rfl, hl, ok, hk⟩ := h
  refine ⟨rfl, ?_⟩
  unfold t_look_lot
  ac_rfl
  refine ⟨w, tupI l, rfl, pl_tupI _ _, ?_, ?_⟩
  · show (l.map D.int).length ≤ 1000
    rw [List.length_map]
    have := len_lot hl
    have := ok.hi
    omega
  · rw [goodLot_ok.mpr hl]
    ac_rfl
    exact hk
def selD : D → Option (List D)
  | .tup ds => some ds
  | _ => none
def pickD (h : Int) : D → D → Option D
  | .tup [.int a, .int b], .int o => if (decide (h = a ∨ h = b) && decide (o ≠ h)) = true then some (D.int o) else none
  | _, _ => none
theorem pick_pr (h : Int) (p : Int × Int) (o : Int) : pickD h (prE p) (.int o) = if (decide (h = p.1 ∨ h = p.2) && decide (o ≠ h)) = true then some (D.int o) else none := rfl
theorem sel_pr (p : Int × Int) : selD (prE p) = some [.int p.1, .int p.2] := rfl
theorem flat_map_filter (h : Int) : ∀ E : List (Int × Int), ((E.map prE).map fun d => ((selD d).getD []).filterMap (pickD h d)).flatten = (E.map fun p => [p.1, p.2].filter fun o => decide (h = p.1 ∨ h = p.2) && decide (o ≠ h)).flatten.map D.int
  | [] => rfl
  | p :: E => by
    rw [List.map_cons, List.map_cons, List.map_cons, List.flatten_cons, List.flatten_cons, List.map_append, ← flat_map_filter h E]
    congr 1
    rw [sel_pr]
    simp only [Option.getD_some, List.filterMap_cons, List.filterMap_nil, List.filter_cons, List.filter_nil, pick_pr]
    by_cases c1 : (decide (h = p.1 ∨ h = p.2) && decide (p.1 ≠ h)) = true <;> by_cases c2 : (decide (h = p.1 ∨ h = p.2) && decide (p.2 ≠ h)) = true <;> simp only [c1, c2, if_true, if_false, List.map_cons, List.map_nil, Bool.false_eq_true]
theorem flat_len (h : Int) : ∀ E : List (Int × Int), ((E.map prE).map fun d => ((selD d).getD []).filterMap (pickD h d)).flatten.length ≤ 2 * E.length
  | [] => by simp
  | p :: E => by
    rw [List.map_cons, List.map_cons, List.flatten_cons, List.length_append, List.length_cons]
    have h1 : (((selD (prE p)).getD []).filterMap (pickD h (prE p))).length ≤ 2 := Nat.le_trans (List.length_filterMap_le ..) (by rw [sel_pr]; simp)
    have := flat_len h E
    omega
theorem sortF_ints (ns : List Int) : sortF [.lst (ns.map D.int)] = some (.lst ((ns.mergeSort leI).map D.int)) := by
  show (match intsOf (ns.map D.int) with
    | some ns => some (D.lst ((List.mergeSort ns leI).map D.int))
    | none => (tupsOf (ns.map D.int)).map fun ls => D.lst ((List.mergeSort ls leR).map tupI)) = _
  rw [ints_self]
theorem in_pr (h : Int) (p : Int × Int) : inOp (.int h) (prE p) = some (.bl (decide (h = p.1 ∨ h = p.2))) := by
  show inOp (.int h) (tupI [p.1, p.2]) = _
  rw [inOp_ints]
  congr 2
  simp
theorem p_next_to (ds : List D) (k : D → Prop) (x : Ex → Prop) (h : fNextTo ds k x) : ds.length = 2 ∧ t_next_to (endF0 false k x) (envF0 ["warren", "hole", "pair", "one"] ds) := by
  obtain ⟨w, h, rfl, ok, hk⟩ := h
  refine ⟨rfl, ?_⟩
  have hE := len_E ok
  unfold t_next_to
  ac_rfl
  refine lc2_go (w.E.map prE) [Sl.frz (wD w), Sl.frz (.int h), .no, .no] selD (pickD h) (fun d => [Sl.frz (wD w), Sl.frz (.int h), .frz d, .no])
    (fun K hK => by ac_rfl; exact hK) (fun i => ?_) (fun d hd J hJ => ?_) (fun d hd hn => ?_) (fun d hd ds hds => ?_) ?_
  · rw [← List.map_take]
    refine Nat.le_trans (flat_len h _) ?_
    rw [List.length_take]
    omega
  · obtain ⟨p, hp, rfl⟩ := List.mem_map.mp hd
    ac_rfl
    exact hJ
  · obtain ⟨p, hp, rfl⟩ := List.mem_map.mp hd
    cases hn
  · obtain ⟨p, hp, rfl⟩ := List.mem_map.mp hd
    cases hds
    refine ⟨by simp, fun K hK => by ac_rfl; exact ⟨_, rfl, hK⟩, rfl, fun d1 hd1 J hJ => ?_⟩
    obtain ⟨o, rfl⟩ : ∃ o, d1 = D.int o := by
      rcases List.mem_cons.mp hd1 with rfl | hd1
      · exact ⟨_, rfl⟩
      · exact ⟨_, List.mem_singleton.mp hd1⟩
    rw [pick_pr] at hJ
    ac_rfl
    rw [in_pr]
    have hJ : J (if (decide (h = p.1 ∨ h = p.2) && decide (o ≠ h)) = true then some (D.int o) else none) [Sl.frz (wD w), Sl.frz (.int h), .frz (prE p), .no] := hJ
    ac_rfl
    by_cases c1 : h = p.1 ∨ h = p.2
    · rw [decide_eq_true c1] at hJ ⊢
      ac_rfl
      by_cases c2 : o = h
      · rw [decide_eq_false (by simpa using c2)] at hJ
        rw [decide_eq_true c2]
        simpa using hJ
      · rw [decide_eq_true (by simpa using c2)] at hJ
        rw [decide_eq_false c2]
        simpa using hJ
    · rw [decide_eq_false c1] at hJ ⊢
      simpa using hJ
  · rw [flat_map_filter, sortF_ints]
    show ∃ d, some (D.lst (((gath w h).mergeSort leI).map D.int)) = some d ∧ k d
    rw [sort_gath ok]
    ac_rfl
    exact hk
theorem sortIF_eq {kvs : List (Int × D)} {m : List Int} (hl : kvs.length < 64) (hn : (kvs.map (·.1)).Nodup) (hm : Asc m) (h : ∀ z, z ∈ kvs.map (·.1) ↔ z ∈ m) : sortIF [.dI kvs] = some (.lst (m.map D.int)) := by
  show (if kvs.length < 64 then some (D.lst (((kvs.map (·.1)).mergeSort leI).map D.int)) else none) = _
  rw [if_pos hl, sort_asc hn hm h]
/-- the dict holds what has been found -/
structure Fnd (w : Wn) (kvs : List (Int × D)) (P : Int → Prop) : Prop where
  nd : (kvs.map (·.1)).Nodup
  mem : ∀ z, z ∈ kvs.map (·.1) ↔ P z
  rng : ∀ z : Int, z ∈ kvs.map (·.1) → 0 ≤ z ∧ z < (w.n : Int)
theorem Fnd.small {w : Wn} {kvs : List (Int × D)} {P : Int → Prop} (f : Fnd w kvs P) : kvs.length ≤ w.n := by
  have := keys_small f.nd f.rng
  rwa [List.length_map] at this
theorem Fnd.put {w : Wn} {kvs : List (Int × D)} {P P' : Int → Prop} {o : Int} {d : D} (f : Fnd w kvs P) (ho : 0 ≤ o ∧ o < w.n) (hP : ∀ z, P' z ↔ P z ∨ z = o) : Fnd w (asPut kvs o d) P' := by
  refine ⟨put_nodup f.nd, fun z => ?_, fun z hz => ?_⟩
  · rw [put_mem, f.mem, hP]
  · rcases (put_mem kvs o d z).mp hz with h | h
    · exact f.rng z h
    · rw [h]; exact ho
theorem Fnd.to {w : Wn} {kvs : List (Int × D)} {P P' : Int → Prop} (f : Fnd w kvs P) (hP : ∀ z, P' z ↔ P z) : Fnd w kvs P' := ⟨f.nd, fun z => by rw [f.mem, hP], f.rng⟩
theorem mem_take_succ {α : Type} {l : List α} {i : Nat} {a z : α} (h : l[i]? = some a) : z ∈ l.take (i + 1) ↔ z ∈ l.take i ∨ z = a := by
  rw [take_succ_get h, List.mem_append, List.mem_singleton]
theorem get_map {α : Type} {f : α → D} {l : List α} {i : Nat} {d : D} (h : (l.map f)[i]? = some d) : ∃ a, l[i]? = some a ∧ d = f a := by
  rw [List.getElem?_map] at h
  cases e : l[i]? with
  | none => rw [e] at h; cases h
  | some a => rw [e] at h; cases h; exact ⟨a, rfl, rfl⟩
theorem imms_ints : ∀ l : List Int, imms (l.map D.int) = true
  | [] => rfl
  | a :: l => imms_ints l
theorem eq_nil (l : List Int) : eqOp (tupI l) (.tup []) = some (.bl (decide (l = []))) := by
  unfold eqOp
  rw [if_pos ⟨pl_tupI _ _, rfl⟩]
  have : eqD (tupI l) (.tup []) = decide (l = []) := eqD_tupI l []
  rw [this]
theorem p_later (ds : List D) (k : D → Prop) (x : Ex → Prop) (h : fLater ds k x) : ds.length = 3 ∧ t_later fNextTo (endF0 false k x) (envF0 ["warren", "where", "lot", "found", "hole", "one"] ds) := by
  obtain ⟨w, S, L, rfl, ok, hS, hk⟩ := h
  refine ⟨rfl, ?_⟩
  have hhi := ok.hi
  unfold t_later
  ac_rfl
  refine for_go (S.map D.int) [Sl.frz (wD w), Sl.frz (tupI S), Sl.frz (tupI L), Sl.own (.dI []), .no, .no]
    (fun i env => ∃ kvs s4 s5, env = [Sl.frz (wD w), Sl.frz (tupI S), Sl.frz (tupI L), Sl.own (.dI kvs), s4, s5] ∧ Fnd w kvs fun z => ∃ h ∈ S.take i, h ∉ L ∧ z ∈ near w h)
    (fun K hK => by ac_rfl; exact hK) ⟨[], .no, .no, rfl, ⟨List.nodup_nil, fun z => by simp, fun z hz => nomatch hz⟩⟩ (fun i d env hd hI => ?_) (fun env hI => ?_)
  · obtain ⟨kvs, s4, s5, rfl, hF⟩ := hI
    obtain ⟨h, hh, rfl⟩ := get_map hd
    ac_rfl
    rw [notInOp_ints]
    ac_rfl
    by_cases hL : h ∈ L
    · have : L.contains h = true := by simpa using hL
      rw [this]
      ac_rfl
      refine hF.to fun z => ?_
      constructor
      · rintro ⟨g, hg, hgL, hz⟩
        rcases (mem_take_succ hh).mp hg with hg | rfl
        · exact ⟨g, hg, hgL, hz⟩
        · exact absurd hL hgL
      · rintro ⟨g, hg, q⟩
        exact ⟨g, (mem_take_succ hh).mpr (.inl hg), q⟩
    · have : L.contains h = false := by simpa using hL
      rw [this]
      ac_rfl
      refine for_go ((near w h).map D.int) [Sl.frz (wD w), Sl.frz (tupI S), Sl.frz (tupI L), Sl.own (.dI kvs), Sl.frz (.int h), s5]
        (fun j env => ∃ kvs s5, env = [Sl.frz (wD w), Sl.frz (tupI S), Sl.frz (tupI L), Sl.own (.dI kvs), Sl.frz (.int h), s5] ∧ Fnd w kvs fun z => (∃ h ∈ S.take i, h ∉ L ∧ z ∈ near w h) ∨ z ∈ (near w h).take j)
        (fun K hK => by ac_rfl; exact ⟨w, h, rfl, ok, by ac_rfl; exact hK⟩) ⟨kvs, s5, rfl, hF.to fun z => by simp⟩ (fun j d env hd hI => ?_) (fun env hI => ?_)
      · obtain ⟨kvs, s5, rfl, hF⟩ := hI
        obtain ⟨o, ho, rfl⟩ := get_map hd
        ac_rfl
        have hr := near_ok (List.mem_of_getElem? ho)
        refine ⟨rfl, ?_, _, rfl, _, rfl, hF.put hr fun z => ?_⟩
        · have := hF.small
          show kvs.length < 16777216
          omega
        · rw [mem_take_succ ho, or_assoc]
      · obtain ⟨kvs, s5, rfl, hF⟩ := hI
        refine ⟨kvs, _, _, rfl, hF.to fun z => ?_⟩
        rw [List.length_map, List.take_length]
        constructor
        · rintro ⟨g, hg, hgL, hz⟩
          rcases (mem_take_succ hh).mp hg with hg | rfl
          · exact .inl ⟨g, hg, hgL, hz⟩
          · exact .inr hz
        · rintro (⟨g, hg, q⟩ | hz)
          · exact ⟨g, (mem_take_succ hh).mpr (.inl hg), q⟩
          · exact ⟨h, (mem_take_succ hh).mpr (.inr rfl), hL, hz⟩
  · obtain ⟨kvs, s4, s5, rfl, hF⟩ := hI
    ac_rfl
    have := hF.small
    refine ⟨_, sortIF_eq (m := later w S L) (by omega) hF.nd (asc_later _ _ _) fun z => ?_, ?_⟩
    · rw [hF.mem, mem_later, List.length_map, List.take_length]
    · ac_rfl
      exact ⟨imms_ints _, hk⟩
theorem p_is_plan (ds : List D) (k : D → Prop) (x : Ex → Prop) (h : fIsPlan ds k x) : ds.length = 3 ∧ t_is_plan fGoodLot (endF0 false k x) (envF0 ["warren", "lookers", "thing", "lot"] ds) := by
  obtain ⟨w, m, d, rfl, hp, hk⟩ := h
  refine ⟨rfl, ?_⟩
  unfold t_is_plan
  ac_rfl
  cases d with
  | lst es =>
    obtain ⟨hp, hl, hes⟩ := hp
    ac_rfl
    by_cases h1 : (1023 : Int) < (es.length : Nat)
    · rw [decide_eq_true h1]
      ac_rfl
      have : isPlanD w.n m (.lst es) = false := by
        show (decide (es.length ≤ 1023) && lotsOf w.n m es) = _
        rw [decide_eq_false (by omega), Bool.false_and]
      rw [this] at hk
      exact hk
    · rw [decide_eq_false h1]
      ac_rfl
      refine lc_go es _ (fun e => some (.bl (goodLotD w.n e && (match e with | .tup ds => decide ((ds.length : Int) ≤ m) | _ => false)))) (fun K hK => by ac_rfl; exact hK) (by omega) (fun e he J hJ => ?_) ?_
      · ac_rfl
        refine ⟨w, e, rfl, plDs_iff.mp hp e he, hes e he, ?_⟩
        ac_rfl
        cases hg : goodLotD w.n e with
        | false =>
          rw [hg] at hJ
          ac_rfl
          exact hJ
        | true =>
          rw [hg] at hJ
          cases e with
          | tup ds => ac_rfl; simp only [Bool.true_and] at hJ; exact hJ
          | _ => cases hg
      · rw [fm_some, allF_map]
        ac_rfl
        have : isPlanD w.n m (.lst es) = lotsOf w.n m es := by
          show (decide (es.length ≤ 1023) && lotsOf w.n m es) = _
          rw [decide_eq_true (by omega), Bool.true_and]
        rw [this] at hk
        exact hk
  | int i => ac_rfl; exact hk
  | bl b => ac_rfl; exact hk
  | non => ac_rfl; exact hk
  | str _ => ac_rfl; exact hk
  | tup _ => ac_rfl; exact hk
  | dI _ => cases hp.1
  | dT _ => cases hp.1
  | scr _ => cases hp.1
  | obj _ _ => cases hp.1
theorem p_look_all (ds : List D) (k : D → Prop) (x : Ex → Prop) (h : fLookAll ds k x) : ds.length = 3 ∧ t_look_all fLookWarren fLookLookers fLookLot (endF0 false k x) (envF0 ["warren", "lookers", "where"] ds) := by
  obtain ⟨w, m, l, rfl, ok, hm, hl, hk⟩ := h
  refine ⟨rfl, ?_⟩
  unfold t_look_all
  ac_rfl
  exact ⟨w, rfl, ok, m, rfl, hm, w, l, rfl, hl, ok, hk⟩
theorem all_ints {a b : Int} : ∀ {ds : List D}, (ds.all fun e => isFromD e a b) = true → ∃ l : List Int, ds = l.map D.int
  | [], _ => ⟨[], rfl⟩
  | d :: ds, h => by
    rw [List.all_cons, Bool.and_eq_true] at h
    obtain ⟨l, hl⟩ := all_ints h.2
    cases d with
    | int i => exact ⟨i :: l, by rw [hl]; rfl⟩
    | _ => cases h.1
theorem lots_tups : ∀ {n : Nat} {m : Int} {es : List D}, plDs 40 es = true → lotsOf n m es = true → ∃ ls : List (List Int), es = ls.map tupI ∧ ∀ l ∈ ls, LotOk n l ∧ (l.length : Int) ≤ m
  | n, m, [], _, _ => ⟨[], rfl, fun l hl => nomatch hl⟩
  | n, m, e :: es, hp, h => by
    unfold lotsOf at h
    rw [List.all_cons, Bool.and_eq_true, Bool.and_eq_true] at h
    rw [plDs, Bool.and_eq_true] at hp
    obtain ⟨ls, e1, e2⟩ := lots_tups hp.2 h.2
    cases e with
    | tup ds =>
      have h1 := h.1.1
      have hb : (ds.all (fun e => isFromD e 0 ((n : Int) - 1)) && incrD ds) = true := h1
      rw [Bool.and_eq_true] at hb
      obtain ⟨l, rfl⟩ := all_ints hb.1
      refine ⟨l :: ls, by rw [e1]; rfl, fun z hz => ?_⟩
      rcases List.mem_cons.mp hz with rfl | hz
      · refine ⟨goodLot_ok.mp h1, ?_⟩
        have := h.1.2
        simpa using this
      · exact e2 z hz
    | _ => cases h.1.1
theorem p_surely (ds : List D) (k : D → Prop) (x : Ex → Prop) (h : fSurely ds k x) : ds.length = 4 ∧ t_surely fLookAll fIsPlan fLater (endF0 false k x) (envF0 ["warren", "lookers", "where", "thing", "lot"] ds) := by
  obtain ⟨w, m, l, d, rfl, ok, hm, hl, hp, hk⟩ := h
  refine ⟨rfl, ?_⟩
  unfold t_surely
  ac_rfl
  refine ⟨w, m, l, rfl, ok, hm, hl, w, m, d, rfl, hp, ?_⟩
  ac_rfl
  cases hpl : isPlanD w.n m d with
  | false =>
    ac_rfl
    unfold surelyD at hk
    rw [hpl, Bool.false_and] at hk
    exact hk
  | true =>
    ac_rfl
    cases d with
    | lst es =>
      have hpl' := hpl
      unfold isPlanD at hpl'
      rw [Bool.and_eq_true] at hpl'
      obtain ⟨ls, rfl, hls⟩ := lots_tups hp.1 hpl'.2
      refine for_go (ls.map tupI) [Sl.frz (wD w), Sl.frz (.int m), Sl.frz (tupI l), Sl.frz (.lst (ls.map tupI)), .no]
        (fun i env => ∃ s, env = [Sl.frz (wD w), Sl.frz (.int m), Sl.frz (tupI ((ls.take i).foldl (later w) l)), Sl.frz (.lst (ls.map tupI)), s] ∧ LotOk w.n ((ls.take i).foldl (later w) l)) (fun K hK => by ac_rfl; exact hK) ⟨_, rfl, hl⟩ (fun i d env hd hI => ?_) (fun env hI => ?_)
      · obtain ⟨s, rfl, hlo⟩ := hI
        obtain ⟨L, hL, rfl⟩ := get_map hd
        ac_rfl
        refine ⟨w, _, L, rfl, ok, hlo, ?_⟩
        ac_rfl
        rw [take_succ_get hL, List.foldl_append]
        exact ⟨rfl, later_ok _ _ _⟩
      · obtain ⟨s, rfl, hlo⟩ := hI
        ac_rfl
        rw [List.length_map, List.take_length]
        refine ⟨_, eq_nil _, ?_⟩
        unfold surelyD at hk
        rw [hpl, Bool.true_and] at hk
        simp only [tups_self] at hk
        exact hk
    | _ => cases hpl
end K02

set_option Elab.async false
set_option linter.all false
set_option maxRecDepth 100000
set_option maxHeartbeats 4000000
namespace K02
open PySem PySem.Spec PyProof.Rows L2 FX MA
local macro_rules
  | `(tactic| and_intros) => `(tactic| simp (config := { failIfUnchanged := false }) only [sNext, sSeq, sRet, sRetN, sRetOwn, sAsg, sAsgO, sExpr, sIf, sBreak, sCont, sFreeze, sPar, sUnp, sSetL, sPutD, sAugI, sAugL,
  dVar, dC, dOp, dUn, daNil, daCons, dTup, dLst, dCall, dtB, dtTru, dtNot, dtAnd, dtOr, dAndV, dOrV, dNotV, dIf, dChain, dPur, dPurF, dtPur, dTake, dGetA, dGetB, dApp, dPop, dPopAt, dIns0, dItemO, dIsi, dSl, dpN, dpS, dSortSet, dMinP, dLstRg, dTupRg, dF0, dF1,
  diSeq, diRng1, diRng2, diZip, diEnum, diRev, dgName, dgTup, setAll, setM, endF0, endF1, envF0, envF1, wipeE, dtYes, fls, mineD, putE, Sl.put, Sl.seen, x_itT, x_itL, x_itS,
  List.map_cons, List.map_nil, List.length_cons, List.length_nil, List.getElem?_cons_zero, List.getElem?_cons_succ, List.set_cons_zero, List.set_cons_succ, List.replicate, List.append_assoc, List.cons_append, List.nil_append,
  Option.some.injEq, Sl.frz.injEq, Sl.own.injEq, Sl.par.injEq, D.int.injEq, D.bl.injEq, D.tup.injEq, D.lst.injEq, D.dI.injEq, D.dT.injEq, List.cons.injEq, exists_eq_left', exists_eq_left, exists_eq_right, exists_eq_right', exists_eq, exists_eq', Int.reducePow, Int.reduceNeg, Int.reduceLT, Int.reduceLE, Int.reduceMul, Int.reduceAdd, Int.reduceSub, Int.reduceToNat, Nat.reducePow, x_na10, or_true, true_or, and_self, x_set0, x_set1, x_ixN20, x_ixN21, and_true, true_and, Nat.reduceAdd, Nat.reduceSub, Nat.reduceLT, Nat.reduceLeDiff, Int.reduceEq, decide_true, decide_false, Int.cast_ofNat_Int,
  x_sub, x_add, x_addT, x_mul, x_div, x_mod, x_pow, x_le, x_gt, x_ge, x_lt, x_neg, x_catL, x_eq, x_ne, x_isN, x_notN, x_isB, x_notB, x_lenT, x_lenL, x_lenS, x_min, x_max, x_intI, x_intB, x_tupL, x_tupT, x_lstL, x_lstT, x_ixT0, x_ixT1, x_ixL0, x_ixL1, tru_non, tru_bl, tru_int, tru_tup, tru_lst, ty_non, ty_bl, ty_int, ty_str, ty_tup, ty_lst, x_slT, x_slL, and_assoc, exists_and_left, imm, imms,
  reduceIte, Bool.not_true, Bool.not_false, Bool.false_eq_true, Option.map_some, if_true, if_false, false_and, and_false, reduceCtorEq, exists_const, exists_false, false_or, or_false, Bool.true_and, Bool.and_true])
local macro_rules
  | `(tactic| subst_eqs) => `(tactic| simp (config := { failIfUnchanged := false }) only [x_w0, x_w1, x_ty, x_tyT, x_truT, x_lenI, x_itI, Option.some.injEq, exists_eq_left', isi1, isi2, isi3, isi4, isi5, isi6, isi7, isi8, isi9, isi10, isi11, isi12, isi13, isi14, isi15, isi16, isi17, isi18, isi19, isi20, isi21, isi22, isi23, isi24, Bool.not_true, Bool.not_false, if_true, if_false, Bool.false_eq_true, reduceIte])
local macro_rules
  | `(tactic| ac_rfl) => `(tactic| (try and_intros; try subst_eqs; try and_intros; try subst_eqs; try and_intros))
theorem bag_ix0 (x y : Int) : ixD (bagD x y) (.int 0) = some (.int x) := x_ixL0 _ _
theorem bag_ix1 (x y : Int) : ixD (bagD x y) (.int 1) = some (.int y) := x_ixL1 _ _ _
theorem ixN0 : ixN 2 0 = some 0 := by decide
theorem ixN1 : ixN 2 1 = some 1 := by decide
theorem p_law_take (c : D) (ds : List D) (k : D → D → Prop) (x : Ex → D → Prop) (h : fTake c ds k x) : ds.length = 1 ∧ t__law_take (endF1 k x) (envF1 ["bag", "count", "found"] c ds) := by
  obtain ⟨a, b, n, rfl, hb, rfl, hn, hk⟩ := h
  refine ⟨rfl, ?_⟩
  obtain ⟨b1, b2, b3⟩ := hb
  unfold t__law_take bagD
  ac_rfl
  by_cases h0 : 0 < a
  · rw [decide_eq_true h0]
    ac_rfl
    rw [if_pos (by omega)]
    ac_rfl
    rw [if_pos (by omega)]
    ac_rfl
    exact hk _ _ _ (Int.emod_nonneg _ (by omega)) (Int.emod_lt_of_pos _ (by omega)) ⟨Int.ediv_nonneg b1 (by omega), b2, b3⟩
  · rw [decide_eq_false h0]
    ac_rfl
    have hy1 : 0 ≤ b * 48271 % 2147483647 := Int.emod_nonneg _ (by decide)
    have hy2 : b * 48271 % 2147483647 < 2147483647 := Int.emod_lt_of_pos _ (by decide)
    generalize b * 48271 % 2147483647 = y at hy1 hy2
    rw [if_pos (by omega)]
    ac_rfl
    rw [if_pos (by omega)]
    ac_rfl
    exact hk _ _ _ (Int.emod_nonneg _ (by omega)) (Int.emod_lt_of_pos _ (by omega)) ⟨b1, hy1, hy2⟩
theorem p_law_of (c : D) (ds : List D) (k : D → D → Prop) (x : Ex → D → Prop) (h : fOf c ds k x) : ds.length = 1 ∧ t__law_of fTake (endF1 k x) (envF1 ["bag", "some"] c ds) := by
  obtain ⟨a, b, xs, rfl, hb, hds, hne, hl, hk⟩ := h
  have hl0 : 1 ≤ xs.length := by
    cases xs with
    | nil => exact absurd rfl hne
    | cons _ _ => simp
  have key : ∀ r : Int, 0 ≤ r → r < xs.length → ∃ d ∈ xs, atI xs r = some d := fun r h0 h1 => by
    rw [atI_nat' h0 h1]
    have : r.toNat < xs.length := by omega
    exact ⟨xs[r.toNat], List.getElem_mem this, List.getElem?_eq_getElem this⟩
  rcases hds with rfl | rfl
  · refine ⟨rfl, ?_⟩
    unfold t__law_of
    ac_rfl
    refine ⟨_, _, _, rfl, hb, rfl, ⟨by omega, by omega⟩, fun r x' y' h0 h1 hb' => ?_⟩
    obtain ⟨d, hd, e⟩ := key r h0 h1
    ac_rfl
    exact ⟨d, e, hk d x' y' hd hb'⟩
  · refine ⟨rfl, ?_⟩
    unfold t__law_of
    ac_rfl
    refine ⟨_, _, _, rfl, hb, rfl, ⟨by omega, by omega⟩, fun r x' y' h0 h1 hb' => ?_⟩
    obtain ⟨d, hd, e⟩ := key r h0 h1
    ac_rfl
    exact ⟨d, e, hk d x' y' hd hb'⟩
theorem p_law_bag (ds : List D) (k : D → Prop) (x : Ex → Prop) (h : fBag ds k x) : ds.length = 2 ∧ t__law_bag (endF0 true k x) (envF0 ["script", "k", "cell", "seed"] ds) := by
  obtain ⟨ns, j, rfl, hj, hk⟩ := h
  refine ⟨rfl, ?_⟩
  unfold t__law_bag
  ac_rfl
  have sd : ∀ z : Int, BagOk 0 (1 + z % 2147483645) := fun z => by
    have h1 : 0 ≤ z % 2147483645 := Int.emod_nonneg _ (by decide)
    have h2 : z % 2147483645 < 2147483645 := Int.emod_lt_of_pos _ (by decide)
    exact ⟨Int.le_refl _, by omega, by omega⟩
  by_cases hc : (j : Int) < ns.length
  · rw [decide_eq_true hc]
    ac_rfl
    have hj' : j < ns.length := by omega
    have e : ixD (.scr ns) (.int j) = some (.int ns[j]) := by
      show (atI ns (j : Int)).map D.int = _
      rw [atI_nat' (by omega) hc]
      simp [hj']
    rw [e]
    ac_rfl
    have c0 : 0 ≤ ns[j] % 1000000000000000000000000000000000000000000000000000000000000 := Int.emod_nonneg _ (by decide)
    generalize ns[j] % 1000000000000000000000000000000000000000000000000000000000000 = cell at c0
    rw [if_pos (by omega)]
    ac_rfl
    by_cases h18 : cell < 1000000000000000000
    · rw [decide_eq_true h18]
      ac_rfl
      exact hk _ _ (sd _)
    · rw [decide_eq_false h18]
      ac_rfl
      exact hk _ _ ⟨c0, (sd _).2⟩
  · rw [decide_eq_false hc]
    ac_rfl
    rw [if_pos (by omega)]
    ac_rfl
    exact hk _ _ (sd _)
theorem in_E (w : Wn) (a b : Int) : inOp (.tup [.int a, .int b]) (.tup (w.E.map prE)) = some (.bl (decide ((a, b) ∈ w.E))) := by
  have e : w.E.map prE = (w.E.map fun p => [p.1, p.2]).map tupI := by rw [List.map_map]; rfl
  rw [e]
  show inOp (tupI [a, b]) _ = _
  rw [inOp_tups]
  congr 2
  rw [Bool.eq_iff_iff, decide_eq_true_iff, List.contains_iff_mem, List.mem_map]
  constructor
  · rintro ⟨p, hp, e⟩
    injection e with e1 e2
    injection e2 with e2 _
    have : p = (a, b) := Prod.ext e1 e2
    rw [← this]; exact hp
  · intro h
    exact ⟨(a, b), h, rfl⟩
theorem fm_filter (f : Int → Bool) : ∀ l : List Int, ((l.map D.int).filterMap fun d => match d with | .int o => if f o = true then some (D.int o) else none | _ => none) = (l.filter f).map D.int
  | [] => rfl
  | a :: l => by
    rw [List.map_cons, List.filterMap_cons, List.filter_cons]
    by_cases h : f a = true
    · simp only [h, if_true]
      rw [fm_filter f l]; rfl
    · simp only [h, if_false, Bool.false_eq_true]
      rw [fm_filter f l]
theorem p_law_near (ds : List D) (k : D → Prop) (x : Ex → Prop) (h : fLawNear ds k x) : ds.length = 2 ∧ t__law_near (endF0 false k x) (envF0 ["warren", "hole", "one"] ds) := by
  obtain ⟨w, h, rfl, ok, hk⟩ := h
  refine ⟨rfl, ?_⟩
  have hhi := ok.hi
  unfold t__law_near
  ac_rfl
  refine lc_go ((upto w.n).map D.int) _ (fun d => match d with | .int o => if joins w o h = true then some (D.int o) else none | _ => none) (fun K hK => by
    ac_rfl
    refine ⟨by omega, by omega, ?_⟩
    rw [rangeL_upto]
    exact hK) (by rw [List.length_map, len_upto]; omega) (fun d hd J hJ => ?_) ?_
  · obtain ⟨o, ho, rfl⟩ := List.mem_map.mp hd
    ac_rfl
    rw [in_E]
    have hJ : J (if joins w o h = true then some (D.int o) else none) [Sl.frz (wD w), Sl.frz (.int h), .no] := hJ
    unfold joins at hJ
    ac_rfl
    by_cases c1 : (min o h, max o h) ∈ w.E
    · rw [decide_eq_true c1] at hJ ⊢
      ac_rfl
      by_cases c2 : o = h
      · rw [decide_eq_false (by simpa using c2)] at hJ
        rw [decide_eq_true c2]
        simpa using hJ
      · rw [decide_eq_true (by simpa using c2)] at hJ
        rw [decide_eq_false c2]
        simpa using hJ
    · rw [decide_eq_false c1] at hJ ⊢
      simpa using hJ
  · rw [fm_filter]
    exact hk
theorem p_law_later (ds : List D) (k : D → Prop) (x : Ex → Prop) (h : fLawLater ds k x) : ds.length = 3 ∧ t__law_later fLawNear (endF0 false k x) (envF0 ["warren", "where", "lot", "found", "hole", "one"] ds) := by
  obtain ⟨w, S, L, rfl, ok, hS, hk⟩ := h
  refine ⟨rfl, ?_⟩
  have hhi := ok.hi
  unfold t__law_later
  ac_rfl
  refine for_go (S.map D.int) [Sl.frz (wD w), Sl.frz (tupI S), Sl.frz (tupI L), Sl.own (.dI []), .no, .no]
    (fun i env => ∃ kvs s4 s5, env = [Sl.frz (wD w), Sl.frz (tupI S), Sl.frz (tupI L), Sl.own (.dI kvs), s4, s5] ∧ Fnd w kvs fun z => ∃ h ∈ S.take i, h ∉ L ∧ z ∈ near w h)
    (fun K hK => by ac_rfl; exact hK) ⟨[], .no, .no, rfl, ⟨List.nodup_nil, fun z => by simp, fun z hz => nomatch hz⟩⟩ (fun i d env hd hI => ?_) (fun env hI => ?_)
  · obtain ⟨kvs, s4, s5, rfl, hF⟩ := hI
    obtain ⟨h, hh, rfl⟩ := get_map hd
    ac_rfl
    refine for_go ((near w h).map D.int) [Sl.frz (wD w), Sl.frz (tupI S), Sl.frz (tupI L), Sl.own (.dI kvs), Sl.frz (.int h), s5]
      (fun j env => ∃ kvs s5, env = [Sl.frz (wD w), Sl.frz (tupI S), Sl.frz (tupI L), Sl.own (.dI kvs), Sl.frz (.int h), s5] ∧ Fnd w kvs fun z => (∃ h ∈ S.take i, h ∉ L ∧ z ∈ near w h) ∨ (h ∉ L ∧ z ∈ (near w h).take j))
      (fun K hK => by ac_rfl; exact ⟨w, h, rfl, ok, by ac_rfl; exact hK⟩) ⟨kvs, s5, rfl, hF.to fun z => by simp⟩ (fun j d env hd hI => ?_) (fun env hI => ?_)
    · obtain ⟨kvs, s5, rfl, hF⟩ := hI
      obtain ⟨o, ho, rfl⟩ := get_map hd
      ac_rfl
      rw [notInOp_ints]
      ac_rfl
      have hr := near_ok (List.mem_of_getElem? ho)
      by_cases hL : h ∈ L
      · have : L.contains h = true := by simpa using hL
        rw [this]
        ac_rfl
        exact hF.to fun z => by simp [hL]
      · have : L.contains h = false := by simpa using hL
        rw [this]
        ac_rfl
        refine ⟨rfl, ?_, _, rfl, _, rfl, hF.put hr fun z => ?_⟩
        · have := hF.small
          show kvs.length < 16777216
          omega
        · rw [mem_take_succ ho]
          simp [hL, or_assoc]
    · obtain ⟨kvs, s5, rfl, hF⟩ := hI
      refine ⟨kvs, _, _, rfl, hF.to fun z => ?_⟩
      rw [List.length_map, List.take_length]
      constructor
      · rintro ⟨g, hg, hgL, hz⟩
        rcases (mem_take_succ hh).mp hg with hg | rfl
        · exact .inl ⟨g, hg, hgL, hz⟩
        · exact .inr ⟨hgL, hz⟩
      · rintro (⟨g, hg, q⟩ | ⟨hL, hz⟩)
        · exact ⟨g, (mem_take_succ hh).mpr (.inl hg), q⟩
        · exact ⟨h, (mem_take_succ hh).mpr (.inr rfl), hL, hz⟩
  · obtain ⟨kvs, s4, s5, rfl, hF⟩ := hI
    ac_rfl
    have := hF.small
    refine ⟨_, sortIF_eq (m := later w S L) (by omega) hF.nd (asc_later _ _ _) fun z => ?_, ?_⟩
    · rw [hF.mem, mem_later, List.length_map, List.take_length]
    · ac_rfl
      exact ⟨imms_ints _, hk⟩
end K02

set_option Elab.async false
set_option linter.all false
set_option maxRecDepth 100000
set_option maxHeartbeats 4000000
namespace K02
open PySem PySem.Spec PyProof.Rows L2 FX MA
local macro_rules
  | `(tactic| and_intros) => `(tactic| simp (config := { failIfUnchanged := false }) only [sNext, sSeq, sRet, sRetN, sRetOwn, sAsg, sAsgO, sExpr, sIf, sBreak, sCont, sFreeze, sPar, sUnp, sSetL, sPutD, sAugI, sAugL,
  dVar, dC, dOp, dUn, daNil, daCons, dTup, dLst, dCall, dtB, dtTru, dtNot, dtAnd, dtOr, dAndV, dOrV, dNotV, dIf, dChain, dPur, dPurF, dtPur, dTake, dGetA, dGetB, dApp, dPop, dPopAt, dIns0, dItemO, dIsi, dSl, dpN, dpS, dSortSet, dMinP, dLstRg, dTupRg, dF0, dF1,
  diSeq, diRng1, diRng2, diZip, diEnum, diRev, dgName, dgTup, setAll, setM, endF0, endF1, envF0, envF1, wipeE, dtYes, fls, mineD, putE, Sl.put, Sl.seen, x_itT, x_itL, x_itS,
  List.map_cons, List.map_nil, List.length_cons, List.length_nil, List.getElem?_cons_zero, List.getElem?_cons_succ, List.set_cons_zero, List.set_cons_succ, List.replicate, List.append_assoc, List.cons_append, List.nil_append,
  Option.some.injEq, Sl.frz.injEq, Sl.own.injEq, Sl.par.injEq, D.int.injEq, D.bl.injEq, D.tup.injEq, D.lst.injEq, D.dI.injEq, D.dT.injEq, List.cons.injEq, exists_eq_left', exists_eq_left, exists_eq_right, exists_eq_right', exists_eq, exists_eq', Int.reducePow, Int.reduceNeg, Int.reduceLT, Int.reduceLE, Int.reduceMul, Int.reduceAdd, Int.reduceSub, Int.reduceToNat, Nat.reducePow, x_na10, or_true, true_or, and_self, x_set0, x_set1, x_ixN20, x_ixN21, and_true, true_and, Nat.reduceAdd, Nat.reduceSub, Nat.reduceLT, Nat.reduceLeDiff, Int.reduceEq, decide_true, decide_false, Int.cast_ofNat_Int,
  x_sub, x_add, x_addT, x_mul, x_div, x_mod, x_pow, x_le, x_gt, x_ge, x_lt, x_neg, x_catL, x_eq, x_ne, x_isN, x_notN, x_isB, x_notB, x_lenT, x_lenL, x_lenS, x_min, x_max, x_intI, x_intB, x_tupL, x_tupT, x_lstL, x_lstT, x_ixT0, x_ixT1, x_ixL0, x_ixL1, tru_non, tru_bl, tru_int, tru_tup, tru_lst, ty_non, ty_bl, ty_int, ty_str, ty_tup, ty_lst, x_slT, x_slL, and_assoc, exists_and_left, imm, imms,
  reduceIte, Bool.not_true, Bool.not_false, Bool.false_eq_true, Option.map_some, if_true, if_false, false_and, and_false, reduceCtorEq, exists_const, exists_false, false_or, or_false, Bool.true_and, Bool.and_true])
local macro_rules
  | `(tactic| subst_eqs) => `(tactic| simp (config := { failIfUnchanged := false }) only [x_w0, x_w1, x_ty, x_tyT, x_truT, x_lenI, x_itI, Option.some.injEq, exists_eq_left', isi1, isi2, isi3, isi4, isi5, isi6, isi7, isi8, isi9, isi10, isi11, isi12, isi13, isi14, isi15, isi16, isi17, isi18, isi19, isi20, isi21, isi22, isi23, isi24, Bool.not_true, Bool.not_false, if_true, if_false, Bool.false_eq_true, reduceIte])
local macro_rules
  | `(tactic| ac_rfl) => `(tactic| (try and_intros; try subst_eqs; try and_intros; try subst_eqs; try and_intros))
/-- a dict of passages below n -/
structure PK (n : Int) (kvs : List (List Int × D)) : Prop where
  nd : (kvs.map (·.1)).Nodup
  pr : ∀ z : List Int, z ∈ kvs.map (·.1) → ∃ a b : Int, z = [a, b] ∧ 0 ≤ a ∧ a < b ∧ b < n
def cd (z : List Int) : Int := z.headD 0 * 10 + z.tail.headD 0
theorem PK.small {n : Int} {kvs : List (List Int × D)} (h : PK n kvs) (hn : n ≤ 10) : kvs.length ≤ 100 := by
  have h1 : ((kvs.map (·.1)).map cd).Nodup := by
    refine List.pairwise_map.mpr (h.nd.imp_of_mem fun {x y} hx hy hne e => hne ?_)
    obtain ⟨a, b, rfl, q⟩ := h.pr x hx
    obtain ⟨c, d, rfl, r⟩ := h.pr y hy
    have e : a * 10 + b = c * 10 + d := e
    have : a = c := by omega
    have : b = d := by omega
    subst_vars; rfl
  have h2 := keys_small (n := 100) h1 fun z hz => by
    obtain ⟨x, hx, rfl⟩ := List.mem_map.mp hz
    obtain ⟨a, b, rfl, q⟩ := h.pr x hx
    show 0 ≤ a * 10 + b ∧ a * 10 + b < 100
    omega
  rwa [List.length_map, List.length_map] at h2
theorem PK.put {n a b : Int} {d : D} {kvs : List (List Int × D)} (h : PK n kvs) (h1 : 0 ≤ a) (h2 : a < b) (h3 : b < n) : PK n (asPut kvs [a, b] d) := by
  refine ⟨put_nodup h.nd, fun z hz => ?_⟩
  rcases (put_mem _ _ _ _).mp hz with q | q
  · exact h.pr z q
  · exact ⟨a, b, q, h1, h2, h3⟩
theorem PK.nil (n : Int) : PK n [] := ⟨List.nodup_nil, fun z hz => nomatch hz⟩
theorem put_pr (kvs : List (List Int × D)) (a b : Int) (d : D) : dputD (.dT kvs) (.tup [.int a, .int b]) d = some (.dT (asPut kvs [a, b] d)) := rfl
theorem eq_nilL (ls : List (List Int)) : eqOp (.lst (ls.map tupI)) (.lst []) = some (.bl (decide (ls = []))) := by
  unfold eqOp
  rw [if_pos ⟨plDs_tups (n := 58) ls, rfl⟩]
  have : eqD (.lst (ls.map tupI)) (.lst []) = decide (ls = []) := eqDs_tups ls []
  rw [this]
theorem fm_filterT (f : List Int → Bool) : ∀ l : List (List Int), ((l.map tupI).filterMap fun d => match intsOfT d with | some o => if f o = true then some (tupI o) else none | _ => none) = (l.filter f).map tupI
  | [] => rfl
  | a :: l => by
    have e : intsOfT (tupI a) = some a := ints_self a
    rw [List.map_cons, List.filterMap_cons, List.filter_cons]
    by_cases h : f a = true
    · simp only [h, if_true, e]
      rw [fm_filterT f l]; rfl
    · simp only [h, if_false, Bool.false_eq_true, e]
      rw [fm_filterT f l]
theorem imms_tups : ∀ l : List (List Int), imms (l.map tupI) = true
  | [] => rfl
  | a :: l => by
    show (imms (a.map D.int) && imms (l.map tupI)) = true
    rw [imms_ints, imms_tups l]; rfl
def toPr (z : List Int) : Int × Int := (z.headD 0, z.tail.headD 0)
theorem warren_of {n : Nat} (hn : 2 ≤ n) (hn2 : n ≤ 10) {kvs : List (List Int × D)} (h : PK n kvs) (hc : ∀ i : Int, 0 ≤ i → i < n → ∃ z ∈ kvs.map (·.1), i ∈ z) :
    let w : Wn := ⟨n, ((kvs.map (·.1)).mergeSort leR).map toPr⟩
    WOk w ∧ D.tup [.int n, .tup (((kvs.map (·.1)).mergeSort leR).map tupI)] = wD w := by
  have hm : ∀ z, z ∈ (kvs.map (·.1)).mergeSort leR ↔ z ∈ kvs.map (·.1) := fun z => List.mem_mergeSort
  have hs := sortR_sorted (kvs.map (·.1))
  have hd : ((kvs.map (·.1)).mergeSort leR).Nodup := (List.mergeSort_perm _ _).nodup_iff.mpr h.nd
  refine ⟨⟨hn, hn2, ?_, ?_, ?_⟩, ?_⟩
  · show (((kvs.map (·.1)).mergeSort leR).map toPr).Pairwise ltE
    rw [List.pairwise_map]
    refine (List.pairwise_and_iff.mpr ⟨hs, hd⟩).imp_of_mem fun {x y} hx hy hh => ?_
    obtain ⟨a, b, rfl, q⟩ := h.pr x ((hm x).mp hx)
    obtain ⟨c, d, rfl, r⟩ := h.pr y ((hm y).mp hy)
    show a < c ∨ (a = c ∧ b < d)
    obtain ⟨h1, h2⟩ := hh
    have h1 : ¬ ([c, d] : List Int) < [a, b] := List.not_lt.mpr h1
    rw [List.cons_lt_cons_iff, List.cons_lt_cons_iff] at h1
    have h3 : ¬ (a = c ∧ b = d) := fun e => h2 (by rw [e.1, e.2])
    simp only [List.not_lt_nil, and_false, or_false] at h1
    omega
  · intro p hp
    obtain ⟨z, hz, rfl⟩ := List.mem_map.mp hp
    obtain ⟨a, b, rfl, q⟩ := h.pr z ((hm z).mp hz)
    exact q
  · intro i h0 h1
    obtain ⟨z, hz, hi⟩ := hc i h0 h1
    obtain ⟨a, b, rfl, q⟩ := h.pr z hz
    refine ⟨_, List.mem_map.mpr ⟨_, (hm _).mpr hz, rfl⟩, ?_⟩
    rcases List.mem_cons.mp hi with e | hi
    · exact .inl e
    · exact .inr (List.mem_singleton.mp hi)
  · unfold wD
    simp only []
    congr 3
    congr 1
    rw [List.map_map]
    refine List.map_congr_left fun z hz => ?_
    obtain ⟨a, b, rfl, q⟩ := h.pr z ((hm z).mp hz)
    rfl
theorem rangeL2 (a b : Int) : ∀ {i : Nat} {d : D}, (rangeL a b)[i]? = some d → d = .int (a + i) ∧ a + i < b := by
  intro i d h
  unfold rangeL at h
  rw [List.getElem?_map] at h
  by_cases hi : i < (b - a).toNat
  · rw [List.getElem?_range hi] at h
    cases h
    exact ⟨rfl, by omega⟩
  · rw [List.getElem?_eq_none (by simpa using hi)] at h
    cases h
theorem rangeL_len (a b : Int) : (rangeL a b).length = (b - a).toNat := by simp [rangeL]
theorem p_law_warren (c : D) (ds : List D) (k : D → D → Prop) (x : Ex → D → Prop) (h : fLawWarren c ds k x) : ds.length = 1 ∧ t__law_warren fTake fOf (endF1 k x) (envF1 ["bag", "most", "holes", "found", "hole", "near", "turn", "one", "other", "pair"] c ds) := by
  obtain ⟨x0, y0, most, rfl, hb, rfl, hm, hk⟩ := h
  refine ⟨rfl, ?_⟩
  unfold t__law_warren
  ac_rfl
  refine ⟨_, _, _, rfl, hb, rfl, ⟨by omega, by omega⟩, fun r x1 y1 hr0 hr1 hb1 => ?_⟩
  ac_rfl
  obtain ⟨n, rfl⟩ : ∃ n : Nat, r = (n : Int) - 2 := ⟨(r + 2).toNat, by omega⟩
  rw [show (2 : Int) + ((n : Int) - 2) = n by omega]
  have hn2 : 2 ≤ n := by omega
  have hn10 : n ≤ 10 := by omega
  -- the first loop
  refine for_go (rangeL 1 n) [Sl.par (bagD x1 y1), Sl.frz (.int most), Sl.frz (.int n), Sl.own (.dT []), .no, .no, .no, .no, .no, .no]
    (fun i env => ∃ x y kvs s4 s5, env = [Sl.par (bagD x y), Sl.frz (.int most), Sl.frz (.int n), Sl.own (.dT kvs), s4, s5, .no, .no, .no, .no] ∧ BagOk x y ∧ PK n kvs)
    (fun K hK => by ac_rfl; exact ⟨by omega, by omega, hK⟩) ⟨x1, y1, [], _, _, rfl, hb1, PK.nil _⟩ (fun i d env hd hI => ?_) (fun env hI => ?_)
  · obtain ⟨x, y, kvs, s4, s5, rfl, hb, hp⟩ := hI
    obtain ⟨rfl, hi⟩ := rangeL2 _ _ hd
    ac_rfl
    refine ⟨_, _, _, rfl, hb, rfl, ⟨by omega, by omega⟩, fun r x y hr0 hr1 hb => ?_⟩
    ac_rfl
    refine ⟨_, _, _, rfl, hb, .inl rfl, by simp, by simp, fun d x y hd hb => ?_⟩
    ac_rfl
    refine ⟨_, _, _, rfl, hb, rfl, ⟨by omega, by omega⟩, fun r2 x y hr20 hr21 hb => ?_⟩
    ac_rfl
    have hs := hp.small (by omega)
    obtain ⟨a, rfl, ha⟩ : ∃ a : Int, d = .int a ∧ 0 ≤ a ∧ a < 1 + i := by
      rcases List.mem_cons.mp hd with rfl | hd
      · exact ⟨_, rfl, by omega, by omega⟩
      · rw [List.mem_singleton.mp hd]; exact ⟨_, rfl, hr0, hr1⟩
    by_cases h0 : 0 < r2
    · rw [decide_eq_true h0]
      ac_rfl
      refine ⟨rfl, by show kvs.length < 16777216; omega, ?_⟩
      rw [put_pr]
      ac_rfl
      exact ⟨_, _, rfl, hb, hp.put ha.1 ha.2 hi⟩
    · rw [decide_eq_false h0]
      ac_rfl
      exact ⟨_, _, rfl, hb, hp⟩
  · obtain ⟨x, y, kvs, s4, s5, rfl, hb, hp⟩ := hI
    ac_rfl
    refine for_any (fun items e => ∃ t x y, items = rangeL 0 t ∧ t < 1000 ∧ e = [Sl.par (bagD x y), Sl.frz (.int most), Sl.frz (.int n), Sl.own (.dT kvs), s4, s5, .no, .no, .no, .no] ∧ BagOk x y)
      (fun K hK => ?_) (fun items e hP => ?_)
    · ac_rfl
      refine ⟨_, _, _, rfl, hb, .inl rfl, by simp, by simp, fun d x y hd hb => ?_⟩
      ac_rfl
      obtain ⟨t, rfl, h0, h1⟩ : ∃ t : Int, d = .int t ∧ 0 ≤ t ∧ t < 1000 := by
        simp only [List.mem_cons, List.not_mem_nil, or_false] at hd
        rcases hd with rfl | rfl | rfl | rfl | rfl | rfl <;> exact ⟨_, rfl, by decide, by decide⟩
      refine ⟨t, rfl, by omega, by omega, ?_⟩
      exact hK _ _ ⟨t, x, y, rfl, h1, rfl, hb⟩
    · obtain ⟨t, x, y, rfl, ht, rfl, hb⟩ := hP
      refine ⟨fun i env => ∃ x y kvs s6 s7 s8, env = [Sl.par (bagD x y), Sl.frz (.int most), Sl.frz (.int n), Sl.own (.dT kvs), s4, s5, s6, s7, s8, .no] ∧ BagOk x y ∧ PK n kvs,
        ⟨x, y, kvs, _, _, _, rfl, hb, hp⟩, fun i d env hd hI => ?_, fun env hI => ?_⟩
      · obtain ⟨x, y, kvs, s6, s7, s8, rfl, hb, hp⟩ := hI
        ac_rfl
        refine ⟨_, _, _, rfl, hb, rfl, ⟨by omega, by omega⟩, fun r x y hr0 hr1 hb => ?_⟩
        ac_rfl
        refine ⟨_, _, _, rfl, hb, rfl, ⟨by omega, by omega⟩, fun r2 x y hr20 hr21 hb => ?_⟩
        ac_rfl
        have hs := hp.small (by omega)
        by_cases h0 : r = r2
        · rw [decide_eq_true h0]
          ac_rfl
          exact ⟨_, _, rfl, hb, hp⟩
        · rw [decide_eq_false h0]
          ac_rfl
          refine ⟨rfl, by show kvs.length < 16777216; omega, ?_⟩
          rw [put_pr]
          ac_rfl
          exact ⟨_, _, rfl, hb, hp.put (by omega) (by omega) (by omega)⟩
      · obtain ⟨x, y, kvs, s6, s7, s8, rfl, hb, hp⟩ := hI
        ac_rfl
        -- the third loop
        refine for_go (rangeL 0 n) [Sl.par (bagD x y), Sl.frz (.int most), Sl.frz (.int n), Sl.own (.dT kvs), s4, s5, s6, s7, s8, .no]
          (fun i env => ∃ kvs s4 s8 s9, env = [Sl.par (bagD x y), Sl.frz (.int most), Sl.frz (.int n), Sl.own (.dT kvs), s4, s5, s6, s7, s8, s9] ∧ PK n kvs ∧ ∀ h : Int, 0 ≤ h → h < (i : Int) → ∃ z ∈ kvs.map (·.1), h ∈ z)
          (fun K hK => by ac_rfl; exact ⟨by omega, by omega, hK⟩) ⟨kvs, _, _, _, rfl, hp, fun h h0 h1 => by omega⟩ (fun i d env hd hI => ?_) (fun env hI => ?_)
        · obtain ⟨kvs, s4, s8, s9, rfl, hp, hcov⟩ := hI
          obtain ⟨rfl, hi⟩ := rangeL2 _ _ hd
          have hs := hp.small (by omega)
          ac_rfl
          unfold dLcK
          refine ⟨⟨_, rfl, rfl⟩, lc_go ((kvs.map (·.1)).map tupI) _ (fun d => match intsOfT d with | some o => if o.contains (0 + (i : Int)) = true then some (tupI o) else none | _ => none) (fun K hK => ⟨_, _, rfl, rfl, by rw [List.map_map] at hK; exact hK⟩) (by rw [List.length_map, List.length_map]; omega) (fun d hd J hJ => ?_) ?_⟩
          · obtain ⟨z, hz, rfl⟩ := List.mem_map.mp hd
            have e : intsOfT (tupI z) = some z := ints_self z
            simp only [e] at hJ
            ac_rfl
            rw [inOp_ints]
            ac_rfl
            cases hc : z.contains (0 + (i : Int)) with
            | true => rw [hc] at hJ; rw [if_pos rfl] at hJ; rw [if_pos rfl]; exact hJ
            | false => rw [hc] at hJ; rw [if_neg (by decide)] at hJ; rw [if_neg (by decide)]; exact hJ
          · rw [fm_filterT]
            ac_rfl
            rw [eq_nilL]
            ac_rfl
            by_cases hf : (kvs.map (·.1)).filter (fun o => o.contains (0 + (i : Int))) = []
            · rw [decide_eq_true hf]
              ac_rfl
              rw [if_pos (by omega)]
              ac_rfl
              have hm0 : 0 ≤ (0 + (i : Int) + 1) % n := Int.emod_nonneg _ (by omega)
              have hm1 : (0 + (i : Int) + 1) % n < n := Int.emod_lt_of_pos _ (by omega)
              have hne : 0 + (i : Int) ≠ (0 + (i : Int) + 1) % n := by
                by_cases c : (i : Int) + 1 < n
                · rw [Int.emod_eq_of_lt (by omega) (by omega)]; omega
                · have : (0 + (i : Int) + 1) = n := by omega
                  rw [this, Int.emod_self]; omega
              refine ⟨rfl, by show kvs.length < 16777216; omega, ?_⟩
              rw [put_pr]
              ac_rfl
              refine ⟨hp.put (by omega) (by omega) (by omega), fun h h0 h1 => ?_⟩
              by_cases c : h < (i : Int)
              · obtain ⟨z, hz, hh⟩ := hcov h h0 c
                exact ⟨z, (put_mem _ _ _ _).mpr (.inl hz), hh⟩
              · refine ⟨_, (put_mem _ _ _ _).mpr (.inr rfl), ?_⟩
                have : h = 0 + (i : Int) := by omega
                rw [this]
                rcases Int.le_total (0 + (i : Int)) ((0 + (i : Int) + 1) % n) with q | q
                · rw [Int.min_eq_left q]; exact List.mem_cons_self ..
                · rw [Int.max_eq_left q]; exact List.mem_cons_of_mem _ (List.mem_cons_self ..)
            · rw [decide_eq_false hf]
              ac_rfl
              refine ⟨hp, fun h h0 h1 => ?_⟩
              by_cases c : h < (i : Int)
              · exact hcov h h0 c
              · have : h = 0 + (i : Int) := by omega
                obtain ⟨z, hz⟩ := List.exists_mem_of_ne_nil _ hf
                obtain ⟨h2, h3⟩ := List.mem_filter.mp hz
                exact ⟨z, h2, by rw [this]; exact List.contains_iff_mem.mp h3⟩
        · obtain ⟨kvs, s4, s8, s9, rfl, hp, hcov⟩ := hI
          ac_rfl
          rw [rangeL_len] at hcov
          obtain ⟨w1, w2⟩ := warren_of hn2 hn10 hp fun h h0 h1 => hcov h h0 (by omega)
          refine ⟨_, rfl, ?_⟩
          ac_rfl
          refine ⟨imms_tups _, ?_⟩
          have := hk _ x y w1 (by show (n : Int) ≤ most; omega) hb
          rw [← w2] at this
          exact this
end K02

set_option Elab.async false
set_option linter.all false
set_option maxRecDepth 100000
set_option maxHeartbeats 4000000
namespace K02
open PySem PySem.Spec PyProof.Rows L2 FX MA
local macro_rules
  | `(tactic| and_intros) => `(tactic| simp (config := { failIfUnchanged := false }) only [sNext, sSeq, sRet, sRetN, sRetOwn, sAsg, sAsgO, sExpr, sIf, sBreak, sCont, sFreeze, sPar, sUnp, sSetL, sPutD, sAugI, sAugL,
  dVar, dC, dOp, dUn, daNil, daCons, dTup, dLst, dCall, dtB, dtTru, dtNot, dtAnd, dtOr, dAndV, dOrV, dNotV, dIf, dChain, dPur, dPurF, dtPur, dTake, dGetA, dGetB, dApp, dPop, dPopAt, dIns0, dItemO, dIsi, dSl, dpN, dpS, dSortSet, dMinP, dLstRg, dTupRg, dF0, dF1,
  diSeq, diRng1, diRng2, diZip, diEnum, diRev, dgName, dgTup, setAll, setM, endF0, endF1, envF0, envF1, wipeE, dtYes, fls, mineD, putE, Sl.put, Sl.seen, x_itT, x_itL, x_itS,
  List.map_cons, List.map_nil, List.length_cons, List.length_nil, List.getElem?_cons_zero, List.getElem?_cons_succ, List.set_cons_zero, List.set_cons_succ, List.replicate, List.append_assoc, List.cons_append, List.nil_append,
  Option.some.injEq, Sl.frz.injEq, Sl.own.injEq, Sl.par.injEq, D.int.injEq, D.bl.injEq, D.tup.injEq, D.lst.injEq, D.dI.injEq, D.dT.injEq, List.cons.injEq, exists_eq_left', exists_eq_left, exists_eq_right, exists_eq_right', exists_eq, exists_eq', Int.reducePow, Int.reduceNeg, Int.reduceLT, Int.reduceLE, Int.reduceMul, Int.reduceAdd, Int.reduceSub, Int.reduceToNat, Nat.reducePow, x_na10, or_true, true_or, and_self, x_set0, x_set1, x_ixN20, x_ixN21, and_true, true_and, Nat.reduceAdd, Nat.reduceSub, Nat.reduceLT, Nat.reduceLeDiff, Int.reduceEq, decide_true, decide_false, Int.cast_ofNat_Int,
  x_sub, x_add, x_addT, x_mul, x_div, x_mod, x_pow, x_le, x_gt, x_ge, x_lt, x_neg, x_catL, x_eq, x_ne, x_isN, x_notN, x_isB, x_notB, x_lenT, x_lenL, x_lenS, x_min, x_max, x_intI, x_intB, x_tupL, x_tupT, x_lstL, x_lstT, x_ixT0, x_ixT1, x_ixL0, x_ixL1, tru_non, tru_bl, tru_int, tru_tup, tru_lst, ty_non, ty_bl, ty_int, ty_str, ty_tup, ty_lst, x_slT, x_slL, and_assoc, exists_and_left, imm, imms,
  reduceIte, Bool.not_true, Bool.not_false, Bool.false_eq_true, Option.map_some, if_true, if_false, false_and, and_false, reduceCtorEq, exists_const, exists_false, false_or, or_false, Bool.true_and, Bool.and_true])
local macro_rules
  | `(tactic| subst_eqs) => `(tactic| simp (config := { failIfUnchanged := false }) only [x_w0, x_w1, x_ty, x_tyT, x_truT, x_lenI, x_itI, Option.some.injEq, exists_eq_left', isi1, isi2, isi3, isi4, isi5, isi6, isi7, isi8, isi9, isi10, isi11, isi12, isi13, isi14, isi15, isi16, isi17, isi18, isi19, isi20, isi21, isi22, isi23, isi24, Bool.not_true, Bool.not_false, if_true, if_false, Bool.false_eq_true, reduceIte])
local macro_rules
  | `(tactic| ac_rfl) => `(tactic| (try and_intros; try subst_eqs; try and_intros; try subst_eqs; try and_intros))
theorem sortF_tups (ls : List (List Int)) (h : ls ≠ []) : sortF [.lst (ls.map tupI)] = some (.lst ((ls.mergeSort leR).map tupI)) := by
  show (match intsOf (ls.map tupI) with
    | some ns => some (D.lst ((List.mergeSort ns leI).map D.int))
    | none => (tupsOf (ls.map tupI)).map fun ls => D.lst ((List.mergeSort ls leR).map tupI)) = _
  rw [tups_self]
  cases ls with
  | nil => exact absurd rfl h
  | cons a r => rfl
theorem fm_growT (m : Int) (h : Int) : ∀ l : List (List Int), ((l.map tupI).filterMap fun d => match intsOfT d with | some o => if decide ((o.length : Int) < m) = true then some (tupI (o ++ [h])) else none | _ => none) = ((l.filter fun o => decide ((o.length : Int) < m)).map fun o => o ++ [h]).map tupI
  | [] => rfl
  | a :: l => by
    have e : intsOfT (tupI a) = some a := ints_self a
    rw [List.map_cons, List.filterMap_cons, List.filter_cons]
    by_cases q : decide ((a.length : Int) < m) = true
    · simp only [q, if_true, e]
      rw [fm_growT m h l]; rfl
    · simp only [q, if_false, Bool.false_eq_true, e]
      rw [fm_growT m h l]
theorem addA_snoc (l : List Int) (h : Int) (hl : l.length ≤ 1000) : addA (tupI l) (.tup [.int h]) = some (tupI (l ++ [h])) := by
  show (if (l.map D.int).length + [D.int h].length ≤ 16777216 then some (D.tup (l.map D.int ++ [D.int h])) else none) = _
  rw [if_pos (by rw [List.length_map]; simp; omega)]
  unfold tupI
  rw [List.map_append]; rfl
theorem upto_succ (i : Nat) : upto (i + 1) = upto i ++ [(i : Int)] := by
  unfold upto; rw [List.range_succ, List.map_append]; rfl
theorem pow10 {i n : Nat} (h : i ≤ n) (hn : n ≤ 10) : 2 ^ i ≤ 1024 := by
  have : 2 ^ i ≤ 2 ^ 10 := Nat.pow_le_pow_right (by decide) (by omega)
  simpa using this
theorem p_law_lots (ds : List D) (k : D → Prop) (x : Ex → Prop) (h : fLawLots ds k x) : ds.length = 2 ∧ t__law_lots (endF0 false k x) (envF0 ["holes", "most", "found", "hole", "lot_so"] ds) := by
  obtain ⟨n, m, rfl, hn, hk⟩ := h
  refine ⟨rfl, ?_⟩
  unfold t__law_lots
  ac_rfl
  refine for_go (rangeL 0 n) [Sl.frz (.int n), Sl.frz (.int m), Sl.frz (.lst [.tup []]), .no, .no]
    (fun i env => ∃ s3 s4, env = [Sl.frz (.int n), Sl.frz (.int m), Sl.frz (.lst (((upto i).foldl (grow m) [[]]).map tupI)), s3, s4])
    (fun K hK => by ac_rfl; exact ⟨by omega, by omega, hK⟩) ⟨_, _, rfl⟩ (fun i d env hd hI => ?_) (fun env hI => ?_)
  · obtain ⟨s3, s4, rfl⟩ := hI
    obtain ⟨rfl, hi⟩ := rangeL2 _ _ hd
    have z : (0 : Int) + (i : Int) = i := by omega
    rw [z] at hi ⊢
    ac_rfl
    have hlen := Nat.le_trans (raw_len m i) (pow10 (i := i) (n := n) (by omega) hn)
    refine lc_go (((upto i).foldl (grow m) [[]]).map tupI) _ (fun d => match intsOfT d with | some o => if decide ((o.length : Int) < m) = true then some (tupI (o ++ [(i : Int)])) else none | _ => none) (fun K hK => by ac_rfl; exact hK) (by rw [List.length_map]; omega) (fun d hd J hJ => ?_) ?_
    · obtain ⟨o, ho, rfl⟩ := List.mem_map.mp hd
      have hl := len_lot ((raw_mem m i o).mp ho).1
      have e : intsOfT (tupI o) = some o := ints_self o
      simp only [e] at hJ
      ac_rfl
      by_cases c : (o.length : Int) < m
      · rw [decide_eq_true c] at hJ ⊢
        ac_rfl
        refine ⟨_, addA_snoc _ _ (by omega), ?_⟩
        simp only [if_true] at hJ
        exact hJ
      · rw [decide_eq_false c] at hJ ⊢
        simp only [Bool.false_eq_true, if_false] at hJ
        ac_rfl
        exact hJ
    · rw [fm_growT]
      ac_rfl
      have h2 := List.length_filter_le (fun o : List Int => decide ((o.length : Int) < m)) ((upto i).foldl (grow m) [[]])
      rw [List.length_map, List.length_map, List.length_map, if_pos (by omega)]
      ac_rfl
      rw [upto_succ, List.foldl_append]
      show _ = List.map tupI (grow m _ _)
      unfold grow
      rw [List.map_append]
  · obtain ⟨s3, s4, rfl⟩ := hI
    ac_rfl
    rw [rangeL_len]
    have : ((n : Int) - 0).toNat = n := by omega
    rw [this]
    refine ⟨_, sortF_tups _ ?_, hk⟩
    have := lots_ne n m
    unfold lots lotsRaw at this
    intro e
    rw [e] at this
    exact this (by simp)
def PlanOk (n : Nat) (m : Int) (P : List (List Int)) : Prop := P.length ≤ 1000 ∧ ∀ L ∈ P, LotOk n L ∧ (L.length : Int) ≤ m
theorem plan_in {n : Nat} (hn : n ≤ 10) {m : Int} {P : List (List Int)} (h : PlanOk n m P) : PlanIn (.lst (P.map tupI)) ∧ isPlanD n m (.lst (P.map tupI)) = true := by
  refine ⟨⟨plDs_tups (n := 39) P, ?_, ?_⟩, ?_⟩
  · show (P.map tupI).length ≤ 100000
    rw [List.length_map]
    have := h.1
    omega
  · intro e he
    obtain ⟨L, hL, rfl⟩ := List.mem_map.mp he
    show (L.map D.int).length ≤ 1000
    rw [List.length_map]
    have := len_lot (h.2 L hL).1
    omega
  · show (decide ((P.map tupI).length ≤ 1023) && lotsOf n m (P.map tupI)) = true
    rw [List.length_map, decide_eq_true (by have := h.1; omega), Bool.true_and]
    unfold lotsOf
    rw [List.all_map, List.all_eq_true]
    intro L hL
    show (goodLotD n (tupI L) && decide (((L.map D.int).length : Int) ≤ m)) = true
    rw [goodLot_ok.mpr (h.2 L hL).1, Bool.true_and, List.length_map]
    exact decide_eq_true (h.2 L hL).2
theorem ne_nil (l : List Int) : neOp (tupI l) (.tup []) = some (.bl (!decide (l = []))) := by
  unfold neOp
  rw [if_pos ⟨pl_tupI _ _, rfl⟩]
  have : eqD (tupI l) (.tup []) = decide (l = []) := eqD_tupI l []
  rw [this]
theorem tru_lots (P : List (List Int)) : truD (.lst (P.map tupI)) = some (!decide (P = [])) := by
  cases P <;> rfl
def pickI (p : Int → Bool) : D → Option D
  | .int o => if p o = true then some (D.int o) else none
  | _ => none
theorem pickI_int (p : Int → Bool) (o : Int) : pickI p (.int o) = if p o = true then some (D.int o) else none := rfl
theorem fm_pick (p : Int → Bool) : ∀ l : List Int, (l.map D.int).filterMap (pickI p) = (l.filter p).map D.int
  | [] => rfl
  | a :: l => by
    rw [List.map_cons, List.filterMap_cons, List.filter_cons, pickI_int]
    by_cases h : p a = true
    · simp only [h, if_true]
      rw [fm_pick p l]; rfl
    · simp only [h, if_false, Bool.false_eq_true]
      rw [fm_pick p l]
theorem ix_last {l : List Int} {h : Int} (hl : l.getLast? = some h) : ixD (tupI l) (.int (-1)) = some (.int h) := by
  have hne : l ≠ [] := fun e => by rw [e] at hl; cases hl
  have hpos : 0 < l.length := List.length_pos_iff.mpr hne
  show atI (l.map D.int) (-1) = _
  unfold atI ixN
  rw [if_neg (by omega), List.length_map, if_pos (by omega)]
  show (l.map D.int)[(-1 + (l.length : Int)).toNat]? = _
  rw [List.getElem?_map]
  rw [List.getLast?_eq_getElem?] at hl
  have : (-1 + (l.length : Int)).toNat = l.length - 1 := by omega
  rw [this, hl]; rfl
theorem lots_last {n : Nat} {m : Int} : ∃ l, l ∈ lots n m ∧ ixD (.lst ((lots n m).map tupI)) (.int (-1)) = some (tupI l) := by
  have hne := lots_ne n m
  have hpos : 0 < (lots n m).length := List.length_pos_iff.mpr hne
  refine ⟨(lots n m).getLast hne, List.getLast_mem hne, ?_⟩
  show atI ((lots n m).map tupI) (-1) = _
  unfold atI ixN
  rw [if_neg (by omega), List.length_map, if_pos (by omega)]
  show ((lots n m).map tupI)[(-1 + ((lots n m).length : Int)).toNat]? = _
  have : (-1 + ((lots n m).length : Int)).toNat = (lots n m).length - 1 := by omega
  rw [List.getElem?_map, this, ← List.getLast?_eq_getElem?, List.getLast?_eq_some_getLast hne]; rfl
theorem x_neB (a b : Bool) : neOp (.bl a) (.bl b) = some (.bl (!decide (a = b))) := by
  unfold neOp
  rw [if_pos ⟨pl_bl _ _, pl_bl _ _⟩]
  have : eqD (.bl a) (.bl b) = decide (a = b) := by rw [eqD]; cases a <;> cases b <;> rfl
  rw [this]
theorem ne_nilL (ls : List (List Int)) : neOp (.lst (ls.map tupI)) (.lst []) = some (.bl (!decide (ls = []))) := by
  unfold neOp
  rw [if_pos ⟨plDs_tups (n := 58) ls, rfl⟩]
  have : eqD (.lst (ls.map tupI)) (.lst []) = decide (ls = []) := eqDs_tups ls []
  rw [this]
theorem ne_nn : neOp (.lst []) (.lst []) = some (.bl false) := ne_nilL []
theorem eq_nn : eqOp (.lst []) (.lst []) = some (.bl true) := eq_nilL []
theorem ne_cn (l : List Int) (ls : List (List Int)) : neOp (.lst (tupI l :: ls.map tupI)) (.lst []) = some (.bl true) := ne_nilL (l :: ls)
theorem eq_cn (l : List Int) (ls : List (List Int)) : eqOp (.lst (tupI l :: ls.map tupI)) (.lst []) = some (.bl false) := eq_nilL (l :: ls)
theorem ne_ints (a b : List Int) : neOp (.lst (a.map .int)) (.lst (b.map .int)) = some (.bl (!decide (a = b))) := by
  unfold neOp
  rw [if_pos ⟨plDs_ints (n := 59) a, plDs_ints (n := 59) b⟩]
  have : eqD (.lst (a.map D.int)) (.lst (b.map D.int)) = decide (a = b) := eqDs_ints a b
  rw [this]
theorem eq_ints (a b : List Int) : eqOp (.lst (a.map .int)) (.lst (b.map .int)) = some (.bl (decide (a = b))) := by
  unfold eqOp
  rw [if_pos ⟨plDs_ints (n := 59) a, plDs_ints (n := 59) b⟩]
  have : eqD (.lst (a.map D.int)) (.lst (b.map D.int)) = decide (a = b) := eqDs_ints a b
  rw [this]
theorem mem_rangeL {a b : Int} {d : D} (h : d ∈ rangeL a b) : ∃ j, d = .int j ∧ a ≤ j ∧ j < b := by
  obtain ⟨i, hi, e⟩ := List.getElem_of_mem h
  have h2 : (rangeL a b)[i]? = some d := by rw [List.getElem?_eq_getElem hi, e]
  obtain ⟨e1, e2⟩ := rangeL2 a b h2
  exact ⟨_, e1, by omega, e2⟩
theorem ix_at {α : Type} (f : α → D) {l : List α} {j : Int} (h0 : 0 ≤ j) (h1 : j < l.length) : ∃ a, l[j.toNat]? = some a ∧ ixD (.lst (l.map f)) (.int j) = some (f a) := by
  have h : j.toNat < l.length := by omega
  refine ⟨l[j.toNat], List.getElem?_eq_getElem h, ?_⟩
  show atI (l.map f) j = _
  rw [atI_nat' h0 (by rw [List.length_map]; exact h1), List.getElem?_map, List.getElem?_eq_getElem h]; rfl
theorem fm_none {α β : Type} : ∀ l : List α, l.filterMap (fun _ => (none : Option β)) = []
  | [] => rfl
  | a :: l => by rw [List.filterMap_cons, fm_none l]
theorem notInOp_intsL (x : Int) (l : List Int) : notInOp (.int x) (.lst (l.map .int)) = some (.bl (!l.contains x)) := by
  have h := notInOp_ints x l
  unfold notInOp tupI at h
  unfold notInOp
  exact h
end K02

set_option Elab.async false
set_option linter.all false
set_option maxRecDepth 100000
set_option maxHeartbeats 4000000
namespace K02
open PySem PySem.Spec PyProof.Rows L2 FX MA
local macro_rules
  | `(tactic| and_intros) => `(tactic| simp (config := { failIfUnchanged := false }) only [sNext, sSeq, sRet, sRetN, sRetOwn, sAsg, sAsgO, sExpr, sIf, sBreak, sCont, sFreeze, sPar, sUnp, sSetL, sPutD, sAugI, sAugL,
  dVar, dC, dOp, dUn, daNil, daCons, dTup, dLst, dCall, dtB, dtTru, dtNot, dtAnd, dtOr, dAndV, dOrV, dNotV, dIf, dChain, dPur, dPurF, dtPur, dTake, dGetA, dGetB, dApp, dPop, dPopAt, dIns0, dItemO, dIsi, dSl, dpN, dpS, dSortSet, dMinP, dLstRg, dTupRg, dF0, dF1,
  diSeq, diRng1, diRng2, diZip, diEnum, diRev, dgName, dgTup, setAll, setM, endF0, endF1, envF0, envF1, wipeE, dtYes, fls, mineD, putE, Sl.put, Sl.seen, x_itT, x_itL, x_itS,
  List.map_cons, List.map_nil, List.length_cons, List.length_nil, List.getElem?_cons_zero, List.getElem?_cons_succ, List.set_cons_zero, List.set_cons_succ, List.replicate, List.append_assoc, List.cons_append, List.nil_append,
  Option.some.injEq, Sl.frz.injEq, Sl.own.injEq, Sl.par.injEq, D.int.injEq, D.bl.injEq, D.tup.injEq, D.lst.injEq, D.dI.injEq, D.dT.injEq, List.cons.injEq, exists_eq_left', exists_eq_left, exists_eq_right, exists_eq_right', exists_eq, exists_eq', Int.reducePow, Int.reduceNeg, Int.reduceLT, Int.reduceLE, Int.reduceMul, Int.reduceAdd, Int.reduceSub, Int.reduceToNat, Nat.reducePow, x_na10, or_true, true_or, and_self, x_set0, x_set1, x_ixN20, x_ixN21, and_true, true_and, Nat.reduceAdd, Nat.reduceSub, Nat.reduceLT, Nat.reduceLeDiff, Int.reduceEq, decide_true, decide_false, Int.cast_ofNat_Int,
  x_sub, x_add, x_addT, x_mul, x_div, x_mod, x_pow, x_le, x_gt, x_ge, x_lt, x_neg, x_catL, x_eq, x_ne, x_isN, x_notN, x_isB, x_notB, x_lenT, x_lenL, x_lenS, x_min, x_max, x_intI, x_intB, x_tupL, x_tupT, x_lstL, x_lstT, x_ixT0, x_ixT1, x_ixL0, x_ixL1, tru_non, tru_bl, tru_int, tru_tup, tru_lst, ty_non, ty_bl, ty_int, ty_str, ty_tup, ty_lst, x_slT, x_slL, and_assoc, exists_and_left, imm, imms,
  reduceIte, Bool.not_true, Bool.not_false, Bool.false_eq_true, Option.map_some, if_true, if_false, false_and, and_false, reduceCtorEq, exists_const, exists_false, false_or, or_false, Bool.true_and, Bool.and_true])
local macro_rules
  | `(tactic| subst_eqs) => `(tactic| simp (config := { failIfUnchanged := false }) only [x_w0, x_w1, x_ty, x_tyT, x_truT, x_lenI, x_itI, Option.some.injEq, exists_eq_left', isi1, isi2, isi3, isi4, isi5, isi6, isi7, isi8, isi9, isi10, isi11, isi12, isi13, isi14, isi15, isi16, isi17, isi18, isi19, isi20, isi21, isi22, isi23, isi24, Bool.not_true, Bool.not_false, if_true, if_false, Bool.false_eq_true, reduceIte])
local macro_rules
  | `(tactic| ac_rfl) => `(tactic| (try and_intros; try subst_eqs; try and_intros; try subst_eqs; try and_intros))
theorem rawg_len (m : Int) : ∀ (S : List Int) (f : List (List Int)) (N : Nat), (∀ l ∈ f, l.length ≤ N) → ∀ l ∈ S.foldl (grow m) f, l.length ≤ N + S.length
  | [], f, N, h, l, hl => by simpa using h l hl
  | a :: S, f, N, h, l, hl => by
    have := rawg_len m S (grow m f a) (N + 1) (fun l hl => by
      unfold grow at hl
      rcases List.mem_append.mp hl with q | q
      · have := h l q; omega
      · obtain ⟨o, ho, rfl⟩ := List.mem_map.mp q
        have := h o (List.mem_filter.mp ho).1
        rw [List.length_append]
        simp; omega) l hl
    rw [List.length_cons]; omega
theorem foldg_ne (m : Int) : ∀ (S : List Int) (f : List (List Int)), f ≠ [] → S.foldl (grow m) f ≠ []
  | [], f, h => h
  | a :: S, f, h => foldg_ne m S _ (by
    unfold grow
    intro e
    exact h (List.append_eq_nil_iff.mp e).1)
def growD (m h : Int) (d : D) : Option D := match intsOfT d with
  | some o => if decide ((o.length : Int) < m) = true then some (tupI (o ++ [h])) else none
  | _ => none
theorem growD_tup (m h : Int) (o : List Int) : growD m h (tupI o) = if decide ((o.length : Int) < m) = true then some (tupI (o ++ [h])) else none := by
  have e : intsOfT (tupI o) = some o := ints_self o
  unfold growD
  rw [e]
theorem fm_growD (m h : Int) (l : List (List Int)) : (l.map tupI).filterMap (growD m h) = ((l.filter fun o => decide ((o.length : Int) < m)).map fun o => o ++ [h]).map tupI := fm_growT m h l
theorem p_lots_of (ds : List D) (k : D → Prop) (x : Ex → Prop) (h : fLotsOf ds k x) : ds.length = 2 ∧ t_lots_of (endF0 false k x) (envF0 ["holes", "most", "found", "hole", "lot"] ds) := by
  obtain ⟨dS, S, m, rfl, hd, hA, hl, hk⟩ := h
  refine ⟨rfl, ?_⟩
  unfold t_lots_of
  ac_rfl
  refine for_go (S.map .int) [Sl.frz dS, Sl.frz (.int m), Sl.own (.lst [.tup []]), .no, .no]
    (fun i env => ∃ s3 s4, env = [Sl.frz dS, Sl.frz (.int m), Sl.own (.lst (((S.take i).foldl (grow m) [[]]).map tupI)), s3, s4])
    (fun K hK => by ac_rfl; exact ⟨_, hd, hK⟩) ⟨_, _, rfl⟩ (fun i d env hd' hI => ?_) (fun env hI => ?_)
  · obtain ⟨s3, s4, rfl⟩ := hI
    obtain ⟨h, hh, rfl⟩ := get_map hd'
    ac_rfl
    have hi : i < S.length := (List.getElem?_eq_some_iff.mp hh).1
    have h0 := foldg_len m (S.take i) [[]]
    have h1 : 2 ^ (S.take i).length ≤ 2 ^ 10 := Nat.pow_le_pow_right (by decide) (by rw [List.length_take]; omega)
    have hlen : ((S.take i).foldl (grow m) [[]]).length ≤ 1024 := by simp at h0 h1; omega
    refine lc_go (((S.take i).foldl (grow m) [[]]).map tupI) _ (growD m h) (fun K hK => by ac_rfl; exact hK) (by rw [List.length_map]; omega) (fun d hd J hJ => ?_) ?_
    · obtain ⟨o, ho, rfl⟩ := List.mem_map.mp hd
      have hl := rawg_len m (S.take i) [[]] 0 (fun l hl => by rw [List.mem_singleton] at hl; subst hl; exact Nat.le_refl _) o ho
      rw [List.length_take] at hl
      rw [growD_tup] at hJ
      ac_rfl
      by_cases c : (o.length : Int) < m
      · rw [decide_eq_true c] at hJ ⊢
        ac_rfl
        refine ⟨_, addA_snoc _ _ (by omega), ?_⟩
        simp only [if_true] at hJ
        exact hJ
      · rw [decide_eq_false c] at hJ ⊢
        simp only [Bool.false_eq_true, if_false] at hJ
        ac_rfl
        exact hJ
    · rw [fm_growD]
      have h2 := List.length_filter_le (fun o : List Int => decide ((o.length : Int) < m)) ((S.take i).foldl (grow m) [[]])
      refine ⟨imms_tups _, _, _, rfl, rfl, ?_, ?_⟩
      · rw [List.length_map, List.length_map, List.length_map]; omega
      · rw [take_succ_get hh, List.foldl_append]
        show _ = List.map tupI (grow m _ _)
        unfold grow
        rw [List.map_append]
  · obtain ⟨s3, s4, rfl⟩ := hI
    ac_rfl
    rw [List.length_map, List.take_length]
    refine ⟨_, sortF_tups _ (foldg_ne m S _ (by simp)), imms_tups _, hk⟩
def lenD (m : Int) : D → Option D
  | .tup ds => if decide ((ds.length : Int) = m) = true then some (.tup ds) else none
  | _ => none
theorem lenD_tup (m : Int) (o : List Int) : lenD m (tupI o) = if decide ((o.length : Int) = m) = true then some (tupI o) else none := by
  show (if decide (((o.map D.int).length : Int) = m) = true then some (tupI o) else none) = _
  rw [List.length_map]
theorem fm_lenD (m : Int) : ∀ l : List (List Int), (l.map tupI).filterMap (lenD m) = (l.filter fun o => decide ((o.length : Int) = m)).map tupI
  | [] => rfl
  | a :: l => by
    rw [List.map_cons, List.filterMap_cons, List.filter_cons, lenD_tup]
    by_cases h : decide ((a.length : Int) = m) = true
    · simp only [h, if_true]
      rw [fm_lenD m l]; rfl
    · simp only [h, if_false, Bool.false_eq_true]
      rw [fm_lenD m l]
theorem lotsL_len {S : List Int} (h : S.length ≤ 10) (m : Int) : (lotsOfL S m).length ≤ 1024 := by
  unfold lotsOfL
  rw [List.length_mergeSort]
  have h0 := foldg_len m S [[]]
  have h1 : 2 ^ S.length ≤ 2 ^ 10 := Nat.pow_le_pow_right (by decide) h
  simp at h0 h1; omega
theorem bestL_len {S : List Int} (h : S.length ≤ 10) (m : Int) : (bestLots S m).length ≤ 1024 := by
  unfold bestLots
  by_cases c : (S.length : Int) ≤ m
  · rw [if_pos c]; simp
  · rw [if_neg c]
    exact Nat.le_trans (List.length_filter_le _ _) (lotsL_len h m)
theorem p_best_lots (ds : List D) (k : D → Prop) (x : Ex → Prop) (h : fBestLots ds k x) : ds.length = 2 ∧ t_best_lots fLotsOf (endF0 false k x) (envF0 ["where", "lookers", "lot"] ds) := by
  obtain ⟨S, m, rfl, hA, hl, hk⟩ := h
  refine ⟨rfl, ?_⟩
  unfold t_best_lots
  ac_rfl
  unfold bestLots at hk
  by_cases c : (S.length : Int) ≤ m
  · rw [if_pos c] at hk
    rw [decide_eq_true c]
    ac_rfl
    exact hk
  · rw [if_neg c] at hk
    rw [decide_eq_false c]
    ac_rfl
    refine lc_go ((lotsOfL S m).map tupI) _ (lenD m) (fun K hK => by ac_rfl; refine ⟨_, S, m, rfl, rfl, hA, hl, ?_⟩; ac_rfl; exact hK) (by rw [List.length_map]; have := lotsL_len hl m; omega) (fun d hd J hJ => ?_) ?_
    · obtain ⟨o, ho, rfl⟩ := List.mem_map.mp hd
      rw [lenD_tup] at hJ
      ac_rfl
      by_cases q : (o.length : Int) = m
      · rw [decide_eq_true q] at hJ ⊢
        ac_rfl
        simp only [if_true] at hJ
        exact hJ
      · rw [decide_eq_false q] at hJ ⊢
        ac_rfl
        simp only [Bool.false_eq_true, if_false] at hJ
        exact hJ
    · rw [fm_lenD]
      exact hk
end K02

set_option Elab.async false
set_option linter.all false
set_option maxRecDepth 100000
set_option maxHeartbeats 4000000
namespace K02
open PySem PySem.Spec PyProof.Rows L2 FX MA
local macro_rules
  | `(tactic| and_intros) => `(tactic| simp (config := { failIfUnchanged := false }) only [sNext, sSeq, sRet, sRetN, sRetOwn, sAsg, sAsgO, sExpr, sIf, sBreak, sCont, sFreeze, sPar, sUnp, sSetL, sPutD, sAugI, sAugL,
  dVar, dC, dOp, dUn, daNil, daCons, dTup, dLst, dCall, dtB, dtTru, dtNot, dtAnd, dtOr, dAndV, dOrV, dNotV, dIf, dChain, dPur, dPurF, dtPur, dTake, dGetA, dGetB, dApp, dPop, dPopAt, dIns0, dItemO, dIsi, dSl, dpN, dpS, dSortSet, dMinP, dLstRg, dTupRg, dF0, dF1,
  diSeq, diRng1, diRng2, diZip, diEnum, diRev, dgName, dgTup, setAll, setM, endF0, endF1, envF0, envF1, wipeE, dtYes, fls, mineD, putE, Sl.put, Sl.seen, x_itT, x_itL, x_itS,
  List.map_cons, List.map_nil, List.length_cons, List.length_nil, List.getElem?_cons_zero, List.getElem?_cons_succ, List.set_cons_zero, List.set_cons_succ, List.replicate, List.append_assoc, List.cons_append, List.nil_append,
  Option.some.injEq, Sl.frz.injEq, Sl.own.injEq, Sl.par.injEq, D.int.injEq, D.bl.injEq, D.tup.injEq, D.lst.injEq, D.dI.injEq, D.dT.injEq, List.cons.injEq, exists_eq_left', exists_eq_left, exists_eq_right, exists_eq_right', exists_eq, exists_eq', Int.reducePow, Int.reduceNeg, Int.reduceLT, Int.reduceLE, Int.reduceMul, Int.reduceAdd, Int.reduceSub, Int.reduceToNat, Nat.reducePow, x_na10, or_true, true_or, and_self, x_set0, x_set1, x_ixN20, x_ixN21, and_true, true_and, Nat.reduceAdd, Nat.reduceSub, Nat.reduceLT, Nat.reduceLeDiff, Int.reduceEq, decide_true, decide_false, Int.cast_ofNat_Int,
  x_sub, x_add, x_addT, x_mul, x_div, x_mod, x_pow, x_le, x_gt, x_ge, x_lt, x_neg, x_catL, x_eq, x_ne, x_isN, x_notN, x_isB, x_notB, x_lenT, x_lenL, x_lenS, x_min, x_max, x_intI, x_intB, x_tupL, x_tupT, x_lstL, x_lstT, x_ixT0, x_ixT1, x_ixL0, x_ixL1, tru_non, tru_bl, tru_int, tru_tup, tru_lst, ty_non, ty_bl, ty_int, ty_str, ty_tup, ty_lst, x_slT, x_slL, and_assoc, exists_and_left, imm, imms,
  reduceIte, Bool.not_true, Bool.not_false, Bool.false_eq_true, Option.map_some, if_true, if_false, false_and, and_false, reduceCtorEq, exists_const, exists_false, false_or, or_false, Bool.true_and, Bool.and_true])
local macro_rules
  | `(tactic| subst_eqs) => `(tactic| simp (config := { failIfUnchanged := false }) only [x_w0, x_w1, x_ty, x_tyT, x_truT, x_lenI, x_itI, Option.some.injEq, exists_eq_left', isi1, isi2, isi3, isi4, isi5, isi6, isi7, isi8, isi9, isi10, isi11, isi12, isi13, isi14, isi15, isi16, isi17, isi18, isi19, isi20, isi21, isi22, isi23, isi24, Bool.not_true, Bool.not_false, if_true, if_false, Bool.false_eq_true, reduceIte])
local macro_rules
  | `(tactic| ac_rfl) => `(tactic| (try and_intros; try subst_eqs; try and_intros; try subst_eqs; try and_intros))
theorem p_days_table (ds : List D) (k : D → Prop) (x : Ex → Prop) (h : fDaysTable ds k x) : ds.length = 2 ∧ t_days_table fLotsOf fBestLots fLater (endF0 false k x) (envF0 ["warren", "lookers", "rows", "where", "found", "days", "going", "new", "lot", "one"] ds) := by
  obtain ⟨w, m, rfl, ok, hm, hsm, hk⟩ := h
  refine ⟨rfl, ?_⟩
  have hhi := ok.hi
  unfold t_days_table
  ac_rfl
  refine for_go ((lots w.n w.n).map tupI) [Sl.frz (wD w), Sl.frz (.int m), Sl.own (.dT []), .no, .no, .no, .no, .no, .no, .no]
    (fun i env => ∃ rows X s3 s8, env = [Sl.frz (wD w), Sl.frz (.int m), Sl.own (.dT rows), s3, .no, .no, .no, .no, s8, .no] ∧ rows.length ≤ i ∧
      (∀ S, S ∈ rows.map (·.1) ↔ S ∈ (lots w.n w.n).take i) ∧ ∀ S ∈ (lots w.n w.n).take i, asGet rows S = some (.lst ((X S).map tupI)) ∧ (X S).length ≤ 64 ∧ ∀ z, z ∈ X S ↔ z ∈ progR w m S)
    (fun K hK => by
      ac_rfl
      refine ⟨by omega, by omega, _, upto w.n, w.n, rfl, by rw [range_upto]; rfl, asc_upto _, by rw [len_upto]; exact hhi, ?_⟩
      ac_rfl
      exact hK) ⟨[], fun _ => [], _, _, rfl, Nat.le_refl _, fun S => by simp, fun S hS => by simp at hS⟩ (fun i d env hd' hI => ?_) (fun env hI => ?_)
  · obtain ⟨rows, X, s3, s8, rfl, hl, hk1, hk2⟩ := hI
    obtain ⟨S, hS, rfl⟩ := get_map hd'
    have hSo := all_mem.mp (List.mem_of_getElem? hS)
    have hSl := len_lot hSo
    ac_rfl
    refine lc_go ((bestLots S m).map tupI) _ (lateD w S) (fun K hK => by ac_rfl; exact ⟨S, m, rfl, hSo.1, by omega, by ac_rfl; exact hK⟩) (by rw [List.length_map]; have := bestL_len (S := S) (by omega) m; omega) (fun d hd J hJ => ?_) ?_
    · obtain ⟨L, hL, rfl⟩ := List.mem_map.mp hd
      rw [lateD_tup] at hJ
      ac_rfl
      exact ⟨w, S, L, rfl, ok, hSo, by ac_rfl; exact hJ⟩
    · rw [fm_lateD]
      refine ⟨_, rfl, by rw [List.length_map]; exact hsm S hSo, fun ms p1 p2 p3 => ?_⟩
      ac_rfl
      refine ⟨rfl, ?_, _, putT _ _ _, ?_⟩
      · show rows.length < 16777216
        have := (List.getElem?_eq_some_iff.mp hS).1
        have := lots_len hhi w.n
        omega
      · refine ⟨_, rfl, ?_, fun T => ?_, fun T => if T = S then ms else X T, fun T hT => ?_⟩
        · have := asPut_length rows S (.lst (ms.map tupI))
          omega
        · rw [put_mem, hk1, mem_take_succ hS]
        · rw [asGet_put]
          by_cases c : T = S
          · subst c
            simp only [if_true]
            refine ⟨trivial, ?_, p3⟩
            have := nodup_len ms _ p2 fun z hz => (p3 z).mp hz
            rw [List.length_map] at this
            have := hsm T hSo
            omega
          · simp only [if_neg c]
            rcases (mem_take_succ hS).mp hT with q | q
            · exact hk2 T q
            · exact absurd q c
  · obtain ⟨rows, X, s3, s8, rfl, hl, hk1, hk2⟩ := hI
    rw [List.length_map] at hl hk1 hk2
    rw [List.take_length] at hk1 hk2
    have hL := lots_len hhi w.n
    have hKS : ∀ S, S ∈ rows.map (·.1) ↔ LotOk w.n S := fun S => by rw [hk1, all_mem]
    have hX : ∀ S, LotOk w.n S → asGet rows S = some (.lst ((X S).map tupI)) ∧ (X S).length ≤ 64 ∧ ∀ z, z ∈ X S ↔ z ∈ progR w m S := fun S p => hk2 S (all_mem.mpr p)
    clear hk1 hk2
    generalize hKe : rows.map (·.1) = KS at hKS
    ac_rfl
    unfold dDict1
    ac_rfl
    refine ⟨[], rfl, ?_⟩
    ac_rfl
    have hU0 := unf_put (KS := KS) (kvs := []) (S := []) (d := .int 0) ((hKS []).mpr ⟨List.Pairwise.nil, fun z hz => nomatch hz⟩)
    have hKl : KS.length ≤ 1024 := by rw [← hKe, List.length_map]; omega
    have hU1 : unf KS [] ≤ KS.length := List.countP_le_length
    refine while_go (fun μ env => ∃ (t : Nat) (kvs : List (List Int × D)) (g : Bool) (s3 s7 s8 : Sl), env = [Sl.frz (wD w), Sl.frz (.int m), Sl.own (.dT rows), s3, Sl.own (.dT kvs), Sl.frz (.int t), Sl.frz (.bl g), s7, s8, .no] ∧
      TabT (progR w m) (LotOk w.n) t kvs ∧ (g = false → Tab (progR w m) (LotOk w.n) kvs) ∧ kvs.length + unf KS kvs ≤ 1024 ∧ μ = unf KS kvs + if g = true then 1 else 0)
      ⟨_, 0, _, true, _, _, _, rfl, tab0, (fun h => by cases h), by have := hU0.1; simp only [List.length_nil] at this; exact Nat.le_trans this (by omega), rfl⟩ (fun μ env hI => ?_)
    obtain ⟨t, kvs, g, s3, s7, s8, rfl, hT, hd, hU, hμ⟩ := hI
    ac_rfl
    cases g with
    | false =>
      ac_rfl
      exact hk kvs (tab_prog (by omega) (hd rfl))
    | true =>
      ac_rfl
      have hX' : ∀ S, LotOk w.n S → ∀ T, T ∈ X S ↔ T ∈ progR w m S := fun S p => (hX S p).2.2
      obtain ⟨hN, hD⟩ := hT.next (X := X) hKS progR_ok hX'
      refine ⟨⟨_, rfl, rfl⟩, lc_go (KS.map tupI) _ (newD kvs X) (fun K hK => ⟨_, _, rfl, by rw [keysT, hKe], hK⟩) (by rw [List.length_map]; omega) (fun d hdm J hJ => ?_) ?_⟩
      · obtain ⟨S, hS, rfl⟩ := List.mem_map.mp hdm
        have hSo := (hKS S).mp hS
        obtain ⟨g1, g2, _⟩ := hX S hSo
        rw [newD_tup] at hJ
        unfold isNew at hJ
        ac_rfl
        rw [notInT]
        ac_rfl
        cases hq : (asGet kvs S).isNone with
        | false =>
          rw [hq] at hJ
          simp only [Bool.false_and, Bool.false_eq_true, if_false] at hJ
          ac_rfl
          exact hJ
        | true =>
          rw [hq] at hJ
          rw [Bool.true_and] at hJ
          ac_rfl
          refine lc_go ((X S).map tupI) _ (hasD kvs) (fun K hK => by ac_rfl; rw [itemT, g1]; ac_rfl; exact hK) (by rw [List.length_map]; omega) (fun d hdm J hJ => ?_) ?_
          · obtain ⟨T, _, rfl⟩ := List.mem_map.mp hdm
            rw [hasD, inT] at hJ
            ac_rfl
            rw [inT]
            ac_rfl
            exact hJ
          · rw [fm_hasD]
            ac_rfl
            rw [anyF_map]
            ac_rfl
            cases hq2 : (X S).any fun T => (asGet kvs T).isSome with
            | false =>
              rw [hq2] at hJ
              simp only [Bool.false_eq_true, if_false] at hJ
              ac_rfl
              exact hJ
            | true =>
              rw [hq2] at hJ
              simp only [if_true] at hJ
              ac_rfl
              exact hJ
      · rw [fm_newD]
        generalize hne : KS.filter (isNew kvs X) = new at hN hD
        have hnew : ∀ S ∈ new, S ∈ KS := fun S h => by rw [← hne] at h; exact (List.mem_filter.mp h).1
        have hnl : new.length ≤ 1024 := by rw [← hne]; exact Nat.le_trans (List.length_filter_le _ _) hKl
        refine ⟨imms_tups _, ?_⟩
        refine for_go (new.map tupI) _ (fun i env => ∃ s3, env = [Sl.frz (wD w), Sl.frz (.int m), Sl.own (.dT rows), s3, Sl.own (.dT (putAll (.int ((t + 1 : Nat) : Int)) kvs (new.take i))), Sl.frz (.int ((t : Int) + 1)), Sl.frz (.bl true), Sl.frz (.lst (new.map tupI)), s8, .no])
          (fun K hK => by ac_rfl; exact hK) ⟨_, rfl⟩ (fun i d env hd' hI => ?_) (fun env hI => ?_)
        · obtain ⟨s3, rfl⟩ := hI
          obtain ⟨S, hS, rfl⟩ := get_map hd'
          ac_rfl
          refine ⟨rfl, ?_, ?_⟩
          · show (putAll _ kvs (new.take i)).length < 16777216
            have := (unf_all (KS := KS) (d := .int ((t + 1 : Nat) : Int)) (new.take i) kvs fun S h => hnew S (List.mem_of_mem_take h)).1
            omega
          · rw [putT, take_succ_get hS]
            unfold MA.putAll
            rw [List.foldl_append]
            rfl
        · obtain ⟨s3, rfl⟩ := hI
          rw [List.length_map, List.take_length]
          ac_rfl
          have hU2 := unf_all (KS := KS) (d := .int ((t + 1 : Nat) : Int)) new kvs hnew
          rw [List.length_map]
          cases new with
          | nil =>
            refine ⟨_, ?_, t + 1, rfl, hN, fun _ => hD rfl, by omega, rfl⟩
            simp at hμ ⊢
            have : unf KS (putAll (.int ((t : Int) + 1)) kvs []) = unf KS kvs := rfl
            omega
          | cons S r =>
            have hlt : unf KS (putAll (.int ((t + 1 : Nat) : Int)) kvs (S :: r)) < unf KS kvs := by
              refine hU2.2.2 S (List.mem_cons_self ..) ?_
              have : S ∈ KS.filter (isNew kvs X) := by rw [hne]; exact List.mem_cons_self ..
              have := (List.mem_filter.mp this).2
              unfold isNew at this
              rw [Bool.and_eq_true] at this
              exact Option.isNone_iff_eq_none.mp this.1
            have hp : decide (0 < (((S :: r).length : Nat) : Int)) = true := decide_eq_true (by rw [List.length_cons]; omega)
            rw [hp]
            refine ⟨_, ?_, t + 1, rfl, hN, (fun h => by cases h), by omega, rfl⟩
            rw [hμ]
            simp only [if_true]
            omega
end K02

set_option Elab.async false
set_option linter.all false
set_option maxRecDepth 100000
set_option maxHeartbeats 4000000
namespace K02
open PySem PySem.Spec PyProof.Rows L2 FX MA
local macro_rules
  | `(tactic| and_intros) => `(tactic| simp (config := { failIfUnchanged := false }) only [sNext, sSeq, sRet, sRetN, sRetOwn, sAsg, sAsgO, sExpr, sIf, sBreak, sCont, sFreeze, sPar, sUnp, sSetL, sPutD, sAugI, sAugL,
  dVar, dC, dOp, dUn, daNil, daCons, dTup, dLst, dCall, dtB, dtTru, dtNot, dtAnd, dtOr, dAndV, dOrV, dNotV, dIf, dChain, dPur, dPurF, dtPur, dTake, dGetA, dGetB, dApp, dPop, dPopAt, dIns0, dItemO, dIsi, dSl, dpN, dpS, dSortSet, dMinP, dLstRg, dTupRg, dF0, dF1,
  diSeq, diRng1, diRng2, diZip, diEnum, diRev, dgName, dgTup, setAll, setM, endF0, endF1, envF0, envF1, wipeE, dtYes, fls, mineD, putE, Sl.put, Sl.seen, x_itT, x_itL, x_itS,
  List.map_cons, List.map_nil, List.length_cons, List.length_nil, List.getElem?_cons_zero, List.getElem?_cons_succ, List.set_cons_zero, List.set_cons_succ, List.replicate, List.append_assoc, List.cons_append, List.nil_append,
  Option.some.injEq, Sl.frz.injEq, Sl.own.injEq, Sl.par.injEq, D.int.injEq, D.bl.injEq, D.tup.injEq, D.lst.injEq, D.dI.injEq, D.dT.injEq, List.cons.injEq, exists_eq_left', exists_eq_left, exists_eq_right, exists_eq_right', exists_eq, exists_eq', Int.reducePow, Int.reduceNeg, Int.reduceLT, Int.reduceLE, Int.reduceMul, Int.reduceAdd, Int.reduceSub, Int.reduceToNat, Nat.reducePow, x_na10, or_true, true_or, and_self, x_set0, x_set1, x_ixN20, x_ixN21, and_true, true_and, Nat.reduceAdd, Nat.reduceSub, Nat.reduceLT, Nat.reduceLeDiff, Int.reduceEq, decide_true, decide_false, Int.cast_ofNat_Int,
  x_sub, x_add, x_addT, x_mul, x_div, x_mod, x_pow, x_le, x_gt, x_ge, x_lt, x_neg, x_catL, x_eq, x_ne, x_isN, x_notN, x_isB, x_notB, x_lenT, x_lenL, x_lenS, x_min, x_max, x_intI, x_intB, x_tupL, x_tupT, x_lstL, x_lstT, x_ixT0, x_ixT1, x_ixL0, x_ixL1, tru_non, tru_bl, tru_int, tru_tup, tru_lst, ty_non, ty_bl, ty_int, ty_str, ty_tup, ty_lst, x_slT, x_slL, and_assoc, exists_and_left, imm, imms,
  reduceIte, Bool.not_true, Bool.not_false, Bool.false_eq_true, Option.map_some, if_true, if_false, false_and, and_false, reduceCtorEq, exists_const, exists_false, false_or, or_false, Bool.true_and, Bool.and_true])
local macro_rules
  | `(tactic| subst_eqs) => `(tactic| simp (config := { failIfUnchanged := false }) only [x_w0, x_w1, x_ty, x_tyT, x_truT, x_lenI, x_itI, Option.some.injEq, exists_eq_left', isi1, isi2, isi3, isi4, isi5, isi6, isi7, isi8, isi9, isi10, isi11, isi12, isi13, isi14, isi15, isi16, isi17, isi18, isi19, isi20, isi21, isi22, isi23, isi24, Bool.not_true, Bool.not_false, if_true, if_false, Bool.false_eq_true, reduceIte])
local macro_rules
  | `(tactic| ac_rfl) => `(tactic| (try and_intros; try subst_eqs; try and_intros; try subst_eqs; try and_intros))
theorem p_fewest_days (ds : List D) (k : D → Prop) (x : Ex → Prop) (h : fFewestDays ds k x) : ds.length = 3 ∧ t_fewest_days fLookAll fDaysTable (endF0 false k x) (envF0 ["warren", "lookers", "where"] ds) := by
  obtain ⟨w, m, S, rfl, ok, hm, hsm, hS, hk⟩ := h
  refine ⟨rfl, ?_⟩
  unfold t_fewest_days
  ac_rfl
  refine ⟨w, m, S, rfl, ok, hm, hS, ?_⟩
  ac_rfl
  refine ⟨w, m, rfl, ok, hm, hsm, fun kvs hT => ?_⟩
  obtain ⟨o, ho, hd⟩ := hT.day hS
  ac_rfl
  refine ⟨rfl, _, getT _ _, ?_⟩
  rw [ho]
  have := hk o hd
  cases o <;> exact this
theorem p_law_met (ds : List D) (k : D → Prop) (x : Ex → Prop) (h : fLawMet ds k x) : ds.length = 3 ∧ t__law_met fLawLater (endF0 false k x) (envF0 ["warren", "where", "told", "lot_so"] ds) := by
  obtain ⟨w, S, P, rfl, ok, hS, hk⟩ := h
  refine ⟨rfl, ?_⟩
  unfold t__law_met
  ac_rfl
  refine for_go (P.map tupI) [Sl.frz (wD w), Sl.frz (tupI S), Sl.frz (.lst (P.map tupI)), .no]
    (fun i env => ∃ s3, env = [Sl.frz (wD w), Sl.frz (tupI ((P.take i).foldl (later w) S)), Sl.frz (.lst (P.map tupI)), s3] ∧ LotOk w.n ((P.take i).foldl (later w) S))
    (fun K hK => by ac_rfl; exact hK) ⟨_, rfl, hS⟩ (fun i d env hd hI => ?_) (fun env hI => ?_)
  · obtain ⟨s3, rfl, hF⟩ := hI
    obtain ⟨L, hL, rfl⟩ := get_map hd
    ac_rfl
    refine ⟨w, _, L, rfl, ok, hF, ?_⟩
    ac_rfl
    rw [take_succ_get hL, List.foldl_append]
    exact ⟨rfl, later_ok w _ _⟩
  · obtain ⟨s3, rfl, hF⟩ := hI
    rw [List.length_map, List.take_length]
    ac_rfl
    exact hk
end K02

set_option Elab.async false
set_option linter.all false
set_option maxRecDepth 100000
set_option maxHeartbeats 4000000
namespace K02
open PySem PySem.Spec PyProof.Rows L2 FX MA
local macro_rules
  | `(tactic| and_intros) => `(tactic| simp (config := { failIfUnchanged := false }) only [sNext, sSeq, sRet, sRetN, sRetOwn, sAsg, sAsgO, sExpr, sIf, sBreak, sCont, sFreeze, sPar, sUnp, sSetL, sPutD, sAugI, sAugL,
  dVar, dC, dOp, dUn, daNil, daCons, dTup, dLst, dCall, dtB, dtTru, dtNot, dtAnd, dtOr, dAndV, dOrV, dNotV, dIf, dChain, dPur, dPurF, dtPur, dTake, dGetA, dGetB, dApp, dPop, dPopAt, dIns0, dItemO, dIsi, dSl, dpN, dpS, dSortSet, dMinP, dLstRg, dTupRg, dF0, dF1,
  diSeq, diRng1, diRng2, diZip, diEnum, diRev, dgName, dgTup, setAll, setM, endF0, endF1, envF0, envF1, wipeE, dtYes, fls, mineD, putE, Sl.put, Sl.seen, x_itT, x_itL, x_itS,
  List.map_cons, List.map_nil, List.length_cons, List.length_nil, List.getElem?_cons_zero, List.getElem?_cons_succ, List.set_cons_zero, List.set_cons_succ, List.replicate, List.append_assoc, List.cons_append, List.nil_append,
  Option.some.injEq, Sl.frz.injEq, Sl.own.injEq, Sl.par.injEq, D.int.injEq, D.bl.injEq, D.tup.injEq, D.lst.injEq, D.dI.injEq, D.dT.injEq, List.cons.injEq, exists_eq_left', exists_eq_left, exists_eq_right, exists_eq_right', exists_eq, exists_eq', Int.reducePow, Int.reduceNeg, Int.reduceLT, Int.reduceLE, Int.reduceMul, Int.reduceAdd, Int.reduceSub, Int.reduceToNat, Nat.reducePow, x_na10, or_true, true_or, and_self, x_set0, x_set1, x_ixN20, x_ixN21, and_true, true_and, Nat.reduceAdd, Nat.reduceSub, Nat.reduceLT, Nat.reduceLeDiff, Int.reduceEq, decide_true, decide_false, Int.cast_ofNat_Int,
  x_sub, x_add, x_addT, x_mul, x_div, x_mod, x_pow, x_le, x_gt, x_ge, x_lt, x_neg, x_catL, x_eq, x_ne, x_isN, x_notN, x_isB, x_notB, x_lenT, x_lenL, x_lenS, x_min, x_max, x_intI, x_intB, x_tupL, x_tupT, x_lstL, x_lstT, x_ixT0, x_ixT1, x_ixL0, x_ixL1, tru_non, tru_bl, tru_int, tru_tup, tru_lst, ty_non, ty_bl, ty_int, ty_str, ty_tup, ty_lst, x_slT, x_slL, and_assoc, exists_and_left, imm, imms,
  reduceIte, Bool.not_true, Bool.not_false, Bool.false_eq_true, Option.map_some, if_true, if_false, false_and, and_false, reduceCtorEq, exists_const, exists_false, false_or, or_false, Bool.true_and, Bool.and_true])
local macro_rules
  | `(tactic| subst_eqs) => `(tactic| simp (config := { failIfUnchanged := false }) only [x_w0, x_w1, x_ty, x_tyT, x_truT, x_lenI, x_itI, Option.some.injEq, exists_eq_left', isi1, isi2, isi3, isi4, isi5, isi6, isi7, isi8, isi9, isi10, isi11, isi12, isi13, isi14, isi15, isi16, isi17, isi18, isi19, isi20, isi21, isi22, isi23, isi24, Bool.not_true, Bool.not_false, if_true, if_false, Bool.false_eq_true, reduceIte])
local macro_rules
  | `(tactic| ac_rfl) => `(tactic| (try and_intros; try subst_eqs; try and_intros; try subst_eqs; try and_intros))
def keepD (kvs : List (List Int × D)) (d : D) : Option D := match intsOfT d with
  | some S => if (asGet kvs S).isSome = true then some (tupI S) else none
  | none => none
theorem keepD_tup (kvs : List (List Int × D)) (S : List Int) : keepD kvs (tupI S) = if (asGet kvs S).isSome = true then some (tupI S) else none := by
  have e : intsOfT (tupI S) = some S := ints_self S
  unfold keepD
  rw [e]
theorem fm_keepD (kvs : List (List Int × D)) : ∀ l : List (List Int), (l.map tupI).filterMap (keepD kvs) = (l.filter fun S => (asGet kvs S).isSome).map tupI
  | [] => rfl
  | a :: l => by
    rw [List.map_cons, List.filterMap_cons, List.filter_cons, keepD_tup]
    by_cases h : (asGet kvs a).isSome = true
    · simp only [h, if_true]
      rw [fm_keepD kvs l]; rfl
    · simp only [h, if_false, Bool.false_eq_true]
      rw [fm_keepD kvs l]
theorem fil_any {α : Type} [DecidableEq α] (p : α → Bool) : ∀ l : List α, (!decide (l.filter p = [])) = l.any p
  | [] => rfl
  | a :: l => by
    rw [List.filter_cons, List.any_cons]
    cases h : p a with
    | true => simp
    | false =>
      simp only [Bool.false_eq_true, if_false, Bool.false_or]
      exact fil_any p l
theorem p_law_days (ds : List D) (k : D → Prop) (x : Ex → Prop) (h : fLawDays ds k x) : ds.length = 2 ∧ t__law_days fLawLots fLawLater (endF0 false k x) (envF0 ["warren", "lookers", "looks", "rows", "where", "found", "going", "turn", "new", "lot_so", "one"] ds) := by
  obtain ⟨w, m, rfl, ok, hm, hk⟩ := h
  refine ⟨rfl, ?_⟩
  have hhi := ok.hi
  have hLm := lots_len hhi m
  unfold t__law_days
  ac_rfl
  refine ⟨w.n, m, rfl, hhi, ?_⟩
  ac_rfl
  refine for_go ((lots w.n w.n).map tupI) [Sl.frz (wD w), Sl.frz (.int m), Sl.frz (.lst ((lots w.n m).map tupI)), Sl.own (.dT []), .no, .no, .no, .no, .no, .no, .no]
    (fun i env => ∃ rows s3 s8, env = [Sl.frz (wD w), Sl.frz (.int m), Sl.frz (.lst ((lots w.n m).map tupI)), Sl.own (.dT rows), s3, .no, .no, .no, .no, s8, .no] ∧ rows.length ≤ i ∧
      (∀ S, S ∈ rows.map (·.1) ↔ S ∈ (lots w.n w.n).take i) ∧ ∀ S ∈ (lots w.n w.n).take i, asGet rows S = some (.lst ((lawR w m S).map tupI)))
    (fun K hK => by
      ac_rfl
      refine ⟨w.n, w.n, rfl, hhi, ?_⟩
      ac_rfl
      exact hK) ⟨[], _, _, rfl, Nat.le_refl _, fun S => by simp, fun S hS => by simp at hS⟩ (fun i d env hd' hI => ?_) (fun env hI => ?_)
  · obtain ⟨rows, s3, s8, rfl, hl, hk1, hk2⟩ := hI
    obtain ⟨S, hS, rfl⟩ := get_map hd'
    have hSo := all_mem.mp (List.mem_of_getElem? hS)
    have hSl := len_lot hSo
    ac_rfl
    refine lc_go ((lots w.n m).map tupI) _ (lateD w S) (fun K hK => by ac_rfl; exact hK) (by rw [List.length_map]; omega) (fun d hd J hJ => ?_) ?_
    · obtain ⟨L, hL, rfl⟩ := List.mem_map.mp hd
      rw [lateD_tup] at hJ
      ac_rfl
      exact ⟨w, S, L, rfl, ok, hSo, by ac_rfl; exact hJ⟩
    · rw [fm_lateD]
      ac_rfl
      refine ⟨rfl, ?_, _, putT _ _ _, ?_⟩
      · show rows.length < 16777216
        have := (List.getElem?_eq_some_iff.mp hS).1
        have := lots_len hhi w.n
        omega
      · refine ⟨_, rfl, ?_, fun T => ?_, fun T hT => ?_⟩
        · have := asPut_length rows S (.lst (((lots w.n m).map (later w S)).map tupI))
          omega
        · rw [put_mem, hk1, mem_take_succ hS]
        · rw [asGet_put]
          by_cases c : T = S
          · subst c
            simp only [if_true]
            rfl
          · simp only [if_neg c]
            rcases (mem_take_succ hS).mp hT with q | q
            · exact hk2 T q
            · exact absurd q c
  · obtain ⟨rows, s3, s8, rfl, hl, hk1, hk2⟩ := hI
    rw [List.length_map] at hl hk1 hk2
    rw [List.take_length] at hk1 hk2
    have hL := lots_len hhi w.n
    have hKS : ∀ S, S ∈ rows.map (·.1) ↔ LotOk w.n S := fun S => by rw [hk1, all_mem]
    have hX : ∀ S, LotOk w.n S → asGet rows S = some (.lst ((lawR w m S).map tupI)) := fun S p => hk2 S (all_mem.mpr p)
    clear hk1 hk2
    generalize hKe : rows.map (·.1) = KS at hKS
    ac_rfl
    unfold dDict1
    ac_rfl
    refine ⟨[], rfl, ?_⟩
    ac_rfl
    have hU0 := unf_put (KS := KS) (kvs := []) (S := []) (d := .int 0) ((hKS []).mpr ⟨List.Pairwise.nil, fun z hz => nomatch hz⟩)
    have hKl : KS.length ≤ 1024 := by rw [← hKe, List.length_map]; omega
    have hU1 : unf KS [] ≤ KS.length := List.countP_le_length
    refine while_go (fun μ env => ∃ (t : Nat) (kvs : List (List Int × D)) (g : Bool) (s3 s8 s9 : Sl), env = [Sl.frz (wD w), Sl.frz (.int m), Sl.frz (.lst ((lots w.n m).map tupI)), Sl.frz (.dT rows), s3, Sl.own (.dT kvs), Sl.frz (.bl g), Sl.frz (.int t), s8, s9, .no] ∧
      TabT (lawR w m) (LotOk w.n) t kvs ∧ (g = false → Tab (lawR w m) (LotOk w.n) kvs) ∧ kvs.length + unf KS kvs ≤ 1024 ∧ μ = unf KS kvs + if g = true then 1 else 0)
      ⟨_, 0, _, true, _, _, _, rfl, tab0, (fun h => by cases h), by have := hU0.1; simp only [List.length_nil] at this; exact Nat.le_trans this (by omega), rfl⟩ (fun μ env hI => ?_)
    obtain ⟨t, kvs, g, s3, s8, s9, rfl, hT, hd, hU, hμ⟩ := hI
    ac_rfl
    cases g with
    | false =>
      ac_rfl
      exact hk kvs (hd rfl)
    | true =>
      ac_rfl
      obtain ⟨hN, hD⟩ := hT.next (X := lawR w m) hKS lawR_ok (fun S p T => Iff.rfl)
      refine ⟨⟨_, rfl, rfl⟩, ?_⟩
      refine for_go (KS.map tupI) [Sl.frz (wD w), Sl.frz (.int m), Sl.frz (.lst ((lots w.n m).map tupI)), Sl.frz (.dT rows), s3, Sl.own (.dT kvs), Sl.frz (.bl true), Sl.frz (.int ((t : Int) + 1)), Sl.own (.lst []), s9, .no]
        (fun i env => ∃ s3, env = [Sl.frz (wD w), Sl.frz (.int m), Sl.frz (.lst ((lots w.n m).map tupI)), Sl.frz (.dT rows), s3, Sl.own (.dT kvs), Sl.frz (.bl true), Sl.frz (.int ((t : Int) + 1)), Sl.own (.lst (((KS.take i).filter (isNew kvs (lawR w m))).map tupI)), s9, .no])
        (fun K hK => ⟨_, _, rfl, by rw [keysT, hKe], hK⟩) ⟨_, rfl⟩ (fun i d env hd' hI => ?_) (fun env hI => ?_)
      · obtain ⟨s3, rfl⟩ := hI
        obtain ⟨S, hS, rfl⟩ := get_map hd'
        have hSo := (hKS S).mp (List.mem_of_getElem? hS)
        have g1 := hX S hSo
        have hil : i < KS.length := (List.getElem?_eq_some_iff.mp hS).1
        have hfl : ((KS.take i).filter (isNew kvs (lawR w m))).length ≤ 1024 := Nat.le_trans (List.length_filter_le _ _) (by rw [List.length_take]; omega)
        rw [take_succ_get hS, List.filter_append]
        have hnS : ∀ b, isNew kvs (lawR w m) S = b → [S].filter (isNew kvs (lawR w m)) = if b = true then [S] else [] := fun b h => by rw [List.filter_cons, h]; rfl
        ac_rfl
        rw [notInT]
        ac_rfl
        cases hq : (asGet kvs S).isNone with
        | false =>
          have : isNew kvs (lawR w m) S = false := by rw [isNew, hq]; rfl
          rw [hnS _ this]
          ac_rfl
          simp only [Bool.false_eq_true, if_false, List.append_nil]
        | true =>
          ac_rfl
          refine lc_go ((lawR w m S).map tupI) _ (keepD kvs) (fun K hK => by ac_rfl; rw [itemT, g1]; ac_rfl; exact hK) (by unfold lawR; rw [List.length_map, List.length_map]; omega) (fun d hdm J hJ => ?_) ?_
          · obtain ⟨T, _, rfl⟩ := List.mem_map.mp hdm
            rw [keepD_tup] at hJ
            ac_rfl
            rw [inT]
            ac_rfl
            cases hq2 : (asGet kvs T).isSome with
            | false =>
              rw [hq2] at hJ
              simp only [Bool.false_eq_true, if_false] at hJ
              ac_rfl
              exact hJ
            | true =>
              rw [hq2] at hJ
              simp only [if_true] at hJ
              ac_rfl
              exact hJ
          · rw [fm_keepD]
            ac_rfl
            rw [ne_nilL, fil_any]
            ac_rfl
            cases hq2 : (lawR w m S).any fun T => (asGet kvs T).isSome with
            | false =>
              have : isNew kvs (lawR w m) S = false := by rw [isNew, hq, hq2]; rfl
              rw [hnS _ this]
              ac_rfl
              simp only [Bool.false_eq_true, if_false, List.append_nil]
            | true =>
              have : isNew kvs (lawR w m) S = true := by rw [isNew, hq, hq2]; rfl
              rw [hnS _ this]
              ac_rfl
              refine ⟨by rw [List.length_map]; omega, ?_⟩
              rw [List.map_append]; rfl
      · obtain ⟨s3, rfl⟩ := hI
        rw [List.length_map, List.take_length]
        generalize hne : KS.filter (isNew kvs (lawR w m)) = new at hN hD
        have hnew : ∀ S ∈ new, S ∈ KS := fun S h => by rw [← hne] at h; exact (List.mem_filter.mp h).1
        have hnl : new.length ≤ 1024 := by rw [← hne]; exact Nat.le_trans (List.length_filter_le _ _) hKl
        ac_rfl
        refine for_go (new.map tupI) _ (fun i env => ∃ s3, env = [Sl.frz (wD w), Sl.frz (.int m), Sl.frz (.lst ((lots w.n m).map tupI)), Sl.frz (.dT rows), s3, Sl.own (.dT (putAll (.int ((t + 1 : Nat) : Int)) kvs (new.take i))), Sl.frz (.bl true), Sl.frz (.int ((t : Int) + 1)), Sl.frz (.lst (new.map tupI)), s9, .no])
          (fun K hK => by ac_rfl; exact hK) ⟨_, rfl⟩ (fun i d env hd' hI => ?_) (fun env hI => ?_)
        · obtain ⟨s3, rfl⟩ := hI
          obtain ⟨S, hS, rfl⟩ := get_map hd'
          ac_rfl
          refine ⟨rfl, ?_, ?_⟩
          · show (putAll _ kvs (new.take i)).length < 16777216
            have := (unf_all (KS := KS) (d := .int ((t + 1 : Nat) : Int)) (new.take i) kvs fun S h => hnew S (List.mem_of_mem_take h)).1
            omega
          · rw [putT, take_succ_get hS]
            unfold MA.putAll
            rw [List.foldl_append]
            rfl
        · obtain ⟨s3, rfl⟩ := hI
          rw [List.length_map, List.take_length]
          ac_rfl
          have hU2 := unf_all (KS := KS) (d := .int ((t + 1 : Nat) : Int)) new kvs hnew
          rw [ne_nilL]
          ac_rfl
          cases new with
          | nil =>
            refine ⟨_, ?_, t + 1, rfl, hN, fun _ => hD rfl, by omega, rfl⟩
            simp at hμ ⊢
            have : unf KS (putAll (.int ((t : Int) + 1)) kvs []) = unf KS kvs := rfl
            omega
          | cons S r =>
            have hlt : unf KS (putAll (.int ((t + 1 : Nat) : Int)) kvs (S :: r)) < unf KS kvs := by
              refine hU2.2.2 S (List.mem_cons_self ..) ?_
              have : S ∈ KS.filter (isNew kvs (lawR w m)) := by rw [hne]; exact List.mem_cons_self ..
              have := (List.mem_filter.mp this).2
              unfold isNew at this
              rw [Bool.and_eq_true] at this
              exact Option.isNone_iff_eq_none.mp this.1
            have hp : (!decide (S :: r = [])) = true := by simp
            rw [hp]
            refine ⟨_, ?_, t + 1, rfl, hN, (fun h => by cases h), by omega, rfl⟩
            rw [hμ]
            simp only [if_true]
            omega
end K02

set_option Elab.async false
set_option linter.all false
set_option maxRecDepth 100000
set_option maxHeartbeats 4000000
namespace K02
open PySem PySem.Spec PyProof.Rows L2 FX MA
local macro_rules
  | `(tactic| and_intros) => `(tactic| simp (config := { failIfUnchanged := false }) only [sNext, sSeq, sRet, sRetN, sRetOwn, sAsg, sAsgO, sExpr, sIf, sBreak, sCont, sFreeze, sPar, sUnp, sSetL, sPutD, sAugI, sAugL,
  dVar, dC, dOp, dUn, daNil, daCons, dTup, dLst, dCall, dtB, dtTru, dtNot, dtAnd, dtOr, dAndV, dOrV, dNotV, dIf, dChain, dPur, dPurF, dtPur, dTake, dGetA, dGetB, dApp, dPop, dPopAt, dIns0, dItemO, dIsi, dSl, dpN, dpS, dSortSet, dMinP, dLstRg, dTupRg, dF0, dF1,
  diSeq, diRng1, diRng2, diZip, diEnum, diRev, dgName, dgTup, setAll, setM, endF0, endF1, envF0, envF1, wipeE, dtYes, fls, mineD, putE, Sl.put, Sl.seen, x_itT, x_itL, x_itS,
  List.map_cons, List.map_nil, List.length_cons, List.length_nil, List.getElem?_cons_zero, List.getElem?_cons_succ, List.set_cons_zero, List.set_cons_succ, List.replicate, List.append_assoc, List.cons_append, List.nil_append,
  Option.some.injEq, Sl.frz.injEq, Sl.own.injEq, Sl.par.injEq, D.int.injEq, D.bl.injEq, D.tup.injEq, D.lst.injEq, D.dI.injEq, D.dT.injEq, List.cons.injEq, exists_eq_left', exists_eq_left, exists_eq_right, exists_eq_right', exists_eq, exists_eq', Int.reducePow, Int.reduceNeg, Int.reduceLT, Int.reduceLE, Int.reduceMul, Int.reduceAdd, Int.reduceSub, Int.reduceToNat, Nat.reducePow, x_na10, or_true, true_or, and_self, x_set0, x_set1, x_ixN20, x_ixN21, and_true, true_and, Nat.reduceAdd, Nat.reduceSub, Nat.reduceLT, Nat.reduceLeDiff, Int.reduceEq, decide_true, decide_false, Int.cast_ofNat_Int,
  x_sub, x_add, x_addT, x_mul, x_div, x_mod, x_pow, x_le, x_gt, x_ge, x_lt, x_neg, x_catL, x_eq, x_ne, x_isN, x_notN, x_isB, x_notB, x_lenT, x_lenL, x_lenS, x_min, x_max, x_intI, x_intB, x_tupL, x_tupT, x_lstL, x_lstT, x_ixT0, x_ixT1, x_ixL0, x_ixL1, tru_non, tru_bl, tru_int, tru_tup, tru_lst, ty_non, ty_bl, ty_int, ty_str, ty_tup, ty_lst, x_slT, x_slL, and_assoc, exists_and_left, imm, imms,
  reduceIte, Bool.not_true, Bool.not_false, Bool.false_eq_true, Option.map_some, if_true, if_false, false_and, and_false, reduceCtorEq, exists_const, exists_false, false_or, or_false, Bool.true_and, Bool.and_true])
local macro_rules
  | `(tactic| subst_eqs) => `(tactic| simp (config := { failIfUnchanged := false }) only [x_w0, x_w1, x_ty, x_tyT, x_truT, x_lenI, x_itI, Option.some.injEq, exists_eq_left', isi1, isi2, isi3, isi4, isi5, isi6, isi7, isi8, isi9, isi10, isi11, isi12, isi13, isi14, isi15, isi16, isi17, isi18, isi19, isi20, isi21, isi22, isi23, isi24, Bool.not_true, Bool.not_false, if_true, if_false, Bool.false_eq_true, reduceIte])
local macro_rules
  | `(tactic| ac_rfl) => `(tactic| (try and_intros; try subst_eqs; try and_intros; try subst_eqs; try and_intros))
theorem ix_snoc (ds : List D) (d : D) : ixD (.lst (ds ++ [d])) (.int (-1)) = some d := by
  show atI (ds ++ [d]) (-1) = _
  unfold atI ixN
  rw [if_neg (by omega), List.length_append, List.length_singleton, if_pos (by omega)]
  show (ds ++ [d])[(-1 + ((ds.length + 1 : Nat) : Int)).toNat]? = _
  have : (-1 + ((ds.length + 1 : Nat) : Int)).toNat = ds.length := by omega
  rw [this, List.getElem?_append_right (Nat.le_refl _)]
  simp
theorem p_plan (ds : List D) (k : D → Prop) (x : Ex → Prop) (h : fPlan ds k x) : ds.length = 3 ∧ t_plan fLookAll fDaysTable fBestLots fLater (endF0 false k x) (envF0 ["warren", "lookers", "where", "table", "found", "some", "lot"] ds) := by
  obtain ⟨w, m, S, rfl, ok, hm, hsm, hS, hk0, hk⟩ := h
  refine ⟨rfl, ?_⟩
  have hhi := ok.hi
  unfold t_plan
  ac_rfl
  refine ⟨w, m, S, rfl, ok, hm, hS, ?_⟩
  ac_rfl
  refine ⟨w, m, rfl, ok, hm, hsm, fun kvs hT => ?_⟩
  obtain ⟨o, ho, hd⟩ := hT.day hS
  ac_rfl
  rw [notInT, ho]
  cases o with
  | none =>
    ac_rfl
    exact hk0 hd
  | some t =>
    ac_rfl
    have hb := day_bound hhi hS hd
    refine while_go (fun μ env => ∃ (W : List Int) (P : List (List Int)) (u : Nat) (s5 : Sl), env = [Sl.frz (wD w), Sl.frz (.int m), Sl.frz (tupI W), Sl.frz (.dT kvs), Sl.own (.lst (P.map tupI)), s5, .no] ∧
      LotOk w.n W ∧ IsDay (lawR w m) W u ∧ P.length + u = t ∧ (∀ L ∈ P, LotOk w.n L ∧ (L.length : Int) ≤ m) ∧ P.foldl (later w) S = W ∧ μ = u)
      ⟨_, S, [], t, _, rfl, hS, hd, by simp, (fun L h => by cases h), rfl, rfl⟩ (fun μ env hI => ?_)
    obtain ⟨W, P, u, s5, rfl, hW, hu, hl, hP, hF, hμ⟩ := hI
    subst hμ
    ac_rfl
    rw [ne_nil]
    ac_rfl
    by_cases c : W = []
    · subst c
      have := day_nil hu
      subst this
      ac_rfl
      exact hk t P hd ⟨by omega, hP, hF⟩
    · rw [decide_eq_false c]
      ac_rfl
      cases μ with
      | zero => exact absurd (day_zero hu) c
      | succ u =>
        have hWl := len_lot hW
        refine lc_go ((bestLots W m).map tupI) _ (valD w kvs W) (fun K hK => by ac_rfl; exact ⟨W, m, rfl, hW.1, by omega, by ac_rfl; exact hK⟩) (by rw [List.length_map]; have := bestL_len (S := W) (by omega) m; omega) (fun d hd J hJ => ?_) ?_
        · obtain ⟨L, hL, rfl⟩ := List.mem_map.mp hd
          rw [valD_tup] at hJ
          ac_rfl
          refine ⟨rfl, w, W, L, rfl, ok, hW, ?_⟩
          ac_rfl
          refine ⟨_, getT _ _, ?_⟩
          rw [val_get hT]
          exact hJ
        · rw [fm_valD]
          cases e : (bestLots W m).map fun L => (valT w kvs W L, L) with
          | nil => exact absurd (List.map_eq_nil_iff.mp e) (best_ne (by omega) hW hu)
          | cons z zs =>
            obtain ⟨b1, b2⟩ := best_step hhi (by omega) hT hW hu e
            ac_rfl
            obtain ⟨q1, q2⟩ := best_mem hW.1 (by omega) b1
            have lo : LotOk w.n (minP z zs).2 := ⟨q1.1, fun y hy => hW.2 y (q1.2 y hy)⟩
            refine ⟨z, rfl, zs, rfl, tupI (minP z zs).2, x_ixT1 _ _ _, by rw [List.length_map]; omega, tupI (minP z zs).2, ix_snoc _ _, w, W, _, rfl, ok, hW, imms_ints _, u, by omega, _, rfl, P ++ [(minP z zs).2], by rw [List.map_append]; rfl, later_ok _ _ _, u, b2, by rw [List.length_append]; simp; omega, fun L hL => ?_, by rw [List.foldl_append, hF]; rfl, rfl⟩
            rcases List.mem_append.mp hL with q | q
            · exact hP L q
            · rw [List.mem_singleton] at q; subst q; exact ⟨lo, q2⟩
end K02

set_option Elab.async false
set_option linter.all false
set_option maxRecDepth 100000
set_option maxHeartbeats 4000000
namespace MA
open FX
def fToldRight : F0 := fun ds k _ => ∃ (w : Wn) (m : Int) (S : List Int) (o : Option Nat), ds = [wD w, .int m, tupI S, dayD o, .lst ((lots w.n w.n).map tupI)] ∧ WOk w ∧ (1 ≤ m ∧ m ≤ 4) ∧ BestSmall w.n m ∧ LotOk w.n S ∧ DayIs w m S o ∧ k (.bl true)
end MA
namespace K02
open PySem PySem.Spec PyProof.Rows L2 FX MA
local macro_rules
  | `(tactic| and_intros) => `(tactic| simp (config := { failIfUnchanged := false }) only [sNext, sSeq, sRet, sRetN, sRetOwn, sAsg, sAsgO, sExpr, sIf, sBreak, sCont, sFreeze, sPar, sUnp, sSetL, sPutD, sAugI, sAugL,
  dVar, dC, dOp, dUn, daNil, daCons, dTup, dLst, dCall, dtB, dtTru, dtNot, dtAnd, dtOr, dAndV, dOrV, dNotV, dIf, dChain, dPur, dPurF, dtPur, dTake, dGetA, dGetB, dApp, dPop, dPopAt, dIns0, dItemO, dIsi, dSl, dpN, dpS, dSortSet, dMinP, dLstRg, dTupRg, dF0, dF1,
  diSeq, diRng1, diRng2, diZip, diEnum, diRev, dgName, dgTup, setAll, setM, endF0, endF1, envF0, envF1, wipeE, dtYes, fls, mineD, putE, Sl.put, Sl.seen, x_itT, x_itL, x_itS,
  List.map_cons, List.map_nil, List.length_cons, List.length_nil, List.getElem?_cons_zero, List.getElem?_cons_succ, List.set_cons_zero, List.set_cons_succ, List.replicate, List.append_assoc, List.cons_append, List.nil_append,
  Option.some.injEq, Sl.frz.injEq, Sl.own.injEq, Sl.par.injEq, D.int.injEq, D.bl.injEq, D.tup.injEq, D.lst.injEq, D.dI.injEq, D.dT.injEq, List.cons.injEq, exists_eq_left', exists_eq_left, exists_eq_right, exists_eq_right', exists_eq, exists_eq', Int.reducePow, Int.reduceNeg, Int.reduceLT, Int.reduceLE, Int.reduceMul, Int.reduceAdd, Int.reduceSub, Int.reduceToNat, Nat.reducePow, x_na10, or_true, true_or, and_self, x_set0, x_set1, x_ixN20, x_ixN21, and_true, true_and, Nat.reduceAdd, Nat.reduceSub, Nat.reduceLT, Nat.reduceLeDiff, Int.reduceEq, decide_true, decide_false, Int.cast_ofNat_Int,
  x_sub, x_add, x_addT, x_mul, x_div, x_mod, x_pow, x_le, x_gt, x_ge, x_lt, x_neg, x_catL, x_eq, x_ne, x_isN, x_notN, x_isB, x_notB, x_lenT, x_lenL, x_lenS, x_min, x_max, x_intI, x_intB, x_tupL, x_tupT, x_lstL, x_lstT, x_ixT0, x_ixT1, x_ixL0, x_ixL1, tru_non, tru_bl, tru_int, tru_tup, tru_lst, ty_non, ty_bl, ty_int, ty_str, ty_tup, ty_lst, x_slT, x_slL, and_assoc, exists_and_left, imm, imms,
  reduceIte, Bool.not_true, Bool.not_false, Bool.false_eq_true, Option.map_some, if_true, if_false, false_and, and_false, reduceCtorEq, exists_const, exists_false, false_or, or_false, Bool.true_and, Bool.and_true])
local macro_rules
  | `(tactic| subst_eqs) => `(tactic| simp (config := { failIfUnchanged := false }) only [x_w0, x_w1, x_ty, x_tyT, x_truT, x_lenI, x_itI, Option.some.injEq, exists_eq_left', isi1, isi2, isi3, isi4, isi5, isi6, isi7, isi8, isi9, isi10, isi11, isi12, isi13, isi14, isi15, isi16, isi17, isi18, isi19, isi20, isi21, isi22, isi23, isi24, Bool.not_true, Bool.not_false, if_true, if_false, Bool.false_eq_true, reduceIte])
local macro_rules
  | `(tactic| ac_rfl) => `(tactic| (try and_intros; try subst_eqs; try and_intros; try subst_eqs; try and_intros))
theorem plan_in' {n : Nat} (hn : n ≤ 10) {m : Int} {P : List (List Int)} (hl : P.length ≤ 1023) (h : ∀ L ∈ P, LotOk n L ∧ (L.length : Int) ≤ m) : PlanIn (.lst (P.map tupI)) ∧ isPlanD n m (.lst (P.map tupI)) = true := by
  refine ⟨⟨plDs_tups (n := 39) P, ?_, ?_⟩, ?_⟩
  · show (P.map tupI).length ≤ 100000
    rw [List.length_map]
    omega
  · intro e he
    obtain ⟨L, hL, rfl⟩ := List.mem_map.mp he
    show (L.map D.int).length ≤ 1000
    rw [List.length_map]
    have := len_lot (h L hL).1
    omega
  · show (decide ((P.map tupI).length ≤ 1023) && lotsOf n m (P.map tupI)) = true
    rw [List.length_map, decide_eq_true hl, Bool.true_and]
    unfold lotsOf
    rw [List.all_map, List.all_eq_true]
    intro L hL
    show (goodLotD n (tupI L) && decide (((L.map D.int).length : Int) ≤ m)) = true
    rw [goodLot_ok.mpr (h L hL).1, Bool.true_and, List.length_map]
    exact decide_eq_true (h L hL).2
theorem sure_eq {w : Wn} (hn : w.n ≤ 10) {m : Int} {S : List Int} {P : List (List Int)} (hl : P.length ≤ 1023) (h : ∀ L ∈ P, LotOk w.n L ∧ (L.length : Int) ≤ m) : surelyD w m S (.lst (P.map tupI)) = decide (P.foldl (later w) S = []) := by
  unfold surelyD
  rw [(plan_in' hn hl h).2, Bool.true_and]
  show (match tupsOf (P.map tupI) with | some ls => decide (ls.foldl (later w) S = []) | none => false) = _
  rw [tups_self]
theorem ne_non : neOp .non .non = some (.bl false) := by
  unfold neOp
  rw [if_pos ⟨pl_non _, pl_non _⟩]
  rfl
theorem notInOp_tupsL (x : List Int) (l : List (List Int)) : notInOp (tupI x) (.lst (l.map tupI)) = some (.bl (!l.contains x)) := by
  have h := inOp_tupsL x l
  unfold inOp at h
  unfold notInOp
  simp only [] at h ⊢
  rw [if_pos ⟨pl_tupI _ _, plDs_tups l⟩] at h ⊢
  injection h with h
  injection h with h
  rw [h]
theorem p_law_told_right (ds : List D) (k : D → Prop) (x : Ex → Prop) (h : fToldRight ds k x) : ds.length = 5 ∧ t__law_told_right fPlan fFewestDays fLawMet fSurely (endF0 false k x) (envF0 ["warren", "lookers", "where", "due", "every", "told", "days", "lot_so"] ds) := by
  obtain ⟨w, m, S, o, rfl, ok, hm, hsm, hS, ho, hk⟩ := h
  refine ⟨rfl, ?_⟩
  have hhi := ok.hi
  unfold t__law_told_right
  ac_rfl
  refine ⟨w, m, S, rfl, ok, hm, hsm, hS, fun h0 => ?_, fun t P hd hP => ?_⟩
  · have : o = none := ho.uniq (p := none) h0
    subst this
    ac_rfl
    refine ⟨w, m, S, rfl, ok, hm, hsm, hS, fun o ho2 => ?_⟩
    have : o = none := ho2.uniq (p := none) h0
    subst this
    unfold dayD
    ac_rfl
    rw [ne_non]
    ac_rfl
    refine ⟨_, x_neB _ _, ?_⟩
    ac_rfl
    exact hk
  · have : o = some t := ho.uniq (p := some t) hd
    subst this
    ac_rfl
    refine ⟨w, m, S, rfl, ok, hm, hsm, hS, fun o ho2 => ?_⟩
    have : o = some t := ho2.uniq (p := some t) hd
    subst this
    unfold dayD
    obtain ⟨hl, hP1, hP2⟩ := hP
    ac_rfl
    refine ⟨_, x_neB _ _, ?_⟩
    have i1 : isNonD (D.lst (P.map tupI)) = false := rfl
    have i2 : isNonD (D.int t) = false := rfl
    rw [i1, i2, List.length_map, hl]
    have hb := day_bound hhi hS hd
    ac_rfl
    refine ⟨w, S, P, rfl, ok, hS, ?_⟩
    rw [hP2]
    refine ⟨_, ne_nil [], ?_⟩
    rw [decide_eq_true rfl]
    ac_rfl
    refine lc_go (P.map tupI) _ (fun _ => none) (fun K hK => by ac_rfl; exact hK) (by rw [List.length_map]; omega) (fun d hdm J hJ => ?_) ?_
    · obtain ⟨L, hL, rfl⟩ := List.mem_map.mp hdm
      obtain ⟨l1, l2⟩ := hP1 L hL
      have c1 : (lots w.n w.n).contains L = true := by
        rw [List.contains_iff_mem]
        exact all_mem.mpr l1
      ac_rfl
      rw [notInOp_tupsL, c1]
      ac_rfl
      have c2 : decide (m < (L.length : Int)) = false := decide_eq_false (by omega)
      rw [c2]
      ac_rfl
      exact hJ
    · rw [fm_none]
      refine ⟨_, ne_nn, _, rfl, ?_⟩
      ac_rfl
      refine ⟨w, m, S, _, rfl, ok, hm, hS, (plan_in' hhi (by omega) hP1).1, ?_⟩
      rw [sure_eq hhi (by omega) hP1, hP2]
      refine ⟨_, x_isB _ _, ?_⟩
      exact hk
end K02

set_option Elab.async false
set_option linter.all false
set_option maxRecDepth 100000
set_option maxHeartbeats 4000000
namespace K02
open PySem PySem.Spec PyProof.Rows L2 FX MA
local macro_rules
  | `(tactic| and_intros) => `(tactic| simp (config := { failIfUnchanged := false }) only [sNext, sSeq, sRet, sRetN, sRetOwn, sAsg, sAsgO, sExpr, sIf, sBreak, sCont, sFreeze, sPar, sUnp, sSetL, sPutD, sAugI, sAugL,
  dVar, dC, dOp, dUn, daNil, daCons, dTup, dLst, dCall, dtB, dtTru, dtNot, dtAnd, dtOr, dAndV, dOrV, dNotV, dIf, dChain, dPur, dPurF, dtPur, dTake, dGetA, dGetB, dApp, dPop, dPopAt, dIns0, dItemO, dIsi, dSl, dpN, dpS, dSortSet, dMinP, dLstRg, dTupRg, dF0, dF1,
  diSeq, diRng1, diRng2, diZip, diEnum, diRev, dgName, dgTup, setAll, setM, endF0, endF1, envF0, envF1, wipeE, dtYes, fls, mineD, putE, Sl.put, Sl.seen, x_itT, x_itL, x_itS,
  List.map_cons, List.map_nil, List.length_cons, List.length_nil, List.getElem?_cons_zero, List.getElem?_cons_succ, List.set_cons_zero, List.set_cons_succ, List.replicate, List.append_assoc, List.cons_append, List.nil_append,
  Option.some.injEq, Sl.frz.injEq, Sl.own.injEq, Sl.par.injEq, D.int.injEq, D.bl.injEq, D.tup.injEq, D.lst.injEq, D.dI.injEq, D.dT.injEq, List.cons.injEq, exists_eq_left', exists_eq_left, exists_eq_right, exists_eq_right', exists_eq, exists_eq', Int.reducePow, Int.reduceNeg, Int.reduceLT, Int.reduceLE, Int.reduceMul, Int.reduceAdd, Int.reduceSub, Int.reduceToNat, Nat.reducePow, x_na10, or_true, true_or, and_self, x_set0, x_set1, x_ixN20, x_ixN21, and_true, true_and, Nat.reduceAdd, Nat.reduceSub, Nat.reduceLT, Nat.reduceLeDiff, Int.reduceEq, decide_true, decide_false, Int.cast_ofNat_Int,
  x_sub, x_add, x_addT, x_mul, x_div, x_mod, x_pow, x_le, x_gt, x_ge, x_lt, x_neg, x_catL, x_eq, x_ne, x_isN, x_notN, x_isB, x_notB, x_lenT, x_lenL, x_lenS, x_min, x_max, x_intI, x_intB, x_tupL, x_tupT, x_lstL, x_lstT, x_ixT0, x_ixT1, x_ixL0, x_ixL1, tru_non, tru_bl, tru_int, tru_tup, tru_lst, ty_non, ty_bl, ty_int, ty_str, ty_tup, ty_lst, x_slT, x_slL, and_assoc, exists_and_left, imm, imms,
  reduceIte, Bool.not_true, Bool.not_false, Bool.false_eq_true, Option.map_some, if_true, if_false, false_and, and_false, reduceCtorEq, exists_const, exists_false, false_or, or_false, Bool.true_and, Bool.and_true])
local macro_rules
  | `(tactic| subst_eqs) => `(tactic| simp (config := { failIfUnchanged := false }) only [x_w0, x_w1, x_ty, x_tyT, x_truT, x_lenI, x_itI, Option.some.injEq, exists_eq_left', isi1, isi2, isi3, isi4, isi5, isi6, isi7, isi8, isi9, isi10, isi11, isi12, isi13, isi14, isi15, isi16, isi17, isi18, isi19, isi20, isi21, isi22, isi23, isi24, Bool.not_true, Bool.not_false, if_true, if_false, Bool.false_eq_true, reduceIte])
local macro_rules
  | `(tactic| ac_rfl) => `(tactic| (try and_intros; try subst_eqs; try and_intros; try subst_eqs; try and_intros))
theorem lot_of {n : Nat} {l : List Int} (h : incr l = true) (h2 : l.all (fun z => decide (0 ≤ z) && decide (z < n)) = true) : LotOk n l := ⟨incr_asc.mp h, fun z hz => by
  have := List.all_eq_true.mp h2 z hz
  simpa using this⟩
def BadT (w : Wn) (m : Int) (d : D) : Prop := PlanIn d ∧ isPlanD w.n m d = false
theorem bad_snoc {w : Wn} (hn : w.n ≤ 10) {m : Int} {P : List (List Int)} (hP : P.length ≤ 6) (hPo : ∀ L ∈ P, LotOk w.n L) {e : D} (pe : plD 40 e = true) (hs : ∀ ds, e = .tup ds → ds.length ≤ 1000)
    (hg : lotsOf w.n m [e] = false) : BadT w m (.lst (P.map tupI ++ [e])) := by
  refine ⟨⟨?_, ?_, ?_⟩, ?_⟩
  · show plDs 40 (P.map tupI ++ [e]) = true
    rw [plDs_iff]
    intro d hd
    rcases List.mem_append.mp hd with q | q
    · obtain ⟨L, _, rfl⟩ := List.mem_map.mp q
      exact pl_tupI 39 L
    · rw [List.mem_singleton] at q; subst q; exact pe
  · show (P.map tupI ++ [e]).length ≤ 100000
    rw [List.length_append, List.length_map]
    simp; omega
  · intro d hd
    rcases List.mem_append.mp hd with q | q
    · obtain ⟨L, hL, rfl⟩ := List.mem_map.mp q
      show (L.map D.int).length ≤ 1000
      rw [List.length_map]
      have := len_lot (hPo L hL)
      omega
    · rw [List.mem_singleton] at q
      subst q
      cases d with
      | tup ds => exact hs ds rfl
      | _ => trivial
  · show (decide ((P.map tupI ++ [e]).length ≤ 1023) && lotsOf w.n m (P.map tupI ++ [e])) = false
    have : lotsOf w.n m (P.map tupI ++ [e]) = (lotsOf w.n m (P.map tupI) && lotsOf w.n m [e]) := by
      unfold lotsOf
      rw [List.all_append]
    rw [this, hg, Bool.and_false, Bool.and_false]
theorem bad_all {w : Wn} (hn : w.n ≤ 10) {m : Int} (hm : 1 ≤ m ∧ m ≤ 4) {P : List (List Int)} (hP : P.length ≤ 6) (hPo : ∀ L ∈ P, LotOk w.n L) {d : D} (h : d ∈ [D.tup (P.map tupI), .lst (P.map tupI ++ [.non]), .lst (P.map tupI ++ [.lst [.int 0]]), .lst (P.map tupI ++ [.tup [.int 0, .int 0]]), .non, .lst (List.replicate 1024 (.tup [])), .lst (P.map tupI ++ [.tup (rangeL 0 (m + 1))])]) : BadT w m d := by
  simp only [List.mem_cons, List.not_mem_nil, or_false] at h
  rcases h with rfl | rfl | rfl | rfl | rfl | rfl | rfl
  · exact ⟨⟨plDs_tups (n := 39) P, trivial⟩, rfl⟩
  · exact bad_snoc hn hP hPo rfl (fun ds e => by cases e) rfl
  · exact bad_snoc hn hP hPo rfl (fun ds e => by cases e) rfl
  · refine bad_snoc hn hP hPo rfl (fun ds e => by cases e; decide) ?_
    have : incrD [.int 0, .int 0] = false := by decide
    simp [lotsOf, goodLotD, this]
  · exact ⟨⟨rfl, trivial⟩, rfl⟩
  · refine ⟨⟨?_, ?_, ?_⟩, ?_⟩
    · show plDs 40 _ = true
      rw [plDs_iff]
      intro d hd
      rw [List.eq_of_mem_replicate hd]; rfl
    · show (List.replicate 1024 (D.tup [])).length ≤ 100000
      rw [List.length_replicate]; decide
    · intro e he
      rw [List.eq_of_mem_replicate he]
      decide
    · have h0 : decide ((List.replicate 1024 (D.tup [])).length ≤ 1023) = false := by rw [List.length_replicate]; rfl
      unfold isPlanD; simp only []; rw [h0, Bool.false_and]
  · refine bad_snoc hn hP hPo ?_ (fun ds e => ?_) ?_
    · show plDs 39 _ = true
      rw [plDs_iff]
      intro d hd
      obtain ⟨j, rfl, _⟩ := mem_rangeL hd
      exact pl_int _ _
    · cases e
      rw [rangeL_len]; omega
    · have : decide (((rangeL 0 (m + 1)).length : Int) ≤ m) = false := decide_eq_false (by rw [rangeL_len]; omega)
      simp only [lotsOf, List.all_cons, List.all_nil, this, Bool.and_false, Bool.false_and]
def fLaw : F0 := fun ds k _ => ∃ ns : List Int, ds = [.scr ns] ∧ k (.bl true)
theorem p_law (ds : List D) (k : D → Prop) (x : Ex → Prop) (h : fLaw ds k x) : ds.length = 1 ∧ t_law fBag fLawWarren fOf fLawDays fLawLots fToldRight fTake fSurely fLawMet fFewestDays (endF0 false k x) (envF0 ["script", "k", "bag", "warren", "lookers", "table", "every", "where", "looks", "turn", "drawn", "long", "bad", "path", "told", "ring", "day", "one"] ds) := by
  obtain ⟨ns, rfl, hk⟩ := h
  refine ⟨rfl, ?_⟩
  unfold t_law
  ac_rfl
  refine for_go (rangeL 0 (min (ns.length : Int) 5 + 2)) [Sl.frz (.scr ns), .no, .no, .no, .no, .no, .no, .no, .no, .no, .no, .no, .no, .no, .no, .no, .no, .no]
    (fun i env => ∃ s1 s2 s3 s4 s5 s6 s7 s8 s9 s10 s11 s12 s16 s17, env = [Sl.frz (.scr ns), s1, s2, s3, s4, s5, s6, s7, s8, s9, s10, s11, s12, .no, .no, .no, s16, s17])
    (fun K hK => by ac_rfl; exact ⟨by omega, by omega, hK⟩) ⟨_, _, _, _, _, _, _, _, _, _, _, _, _, _, rfl⟩ (fun i d env hd hI => ?_) (fun env hI => ?_)
  · obtain ⟨s1, s2, s3, s4, s5, s6, s7, s8, s9, s10, s11, s12, s16, s17, rfl⟩ := hI
    obtain ⟨rfl, hi⟩ := rangeL2 _ _ hd
    have z : (0 : Int) + (i : Int) = i := by omega
    rw [z] at hi ⊢
    ac_rfl
    refine ⟨ns, i, rfl, by omega, fun x y hb => ?_⟩
    ac_rfl
    refine ⟨_, _, _, rfl, hb, .inl rfl, by simp, by simp, fun d x y hd hb => ?_⟩
    obtain ⟨most, rfl, hm1, hm2⟩ : ∃ t : Int, d = .int t ∧ 2 ≤ t ∧ t ≤ 6 := by
      simp only [List.mem_cons, List.not_mem_nil, or_false] at hd
      rcases hd with rfl | rfl | rfl <;> exact ⟨_, rfl, by decide, by decide⟩
    ac_rfl
    refine ⟨_, _, _, rfl, hb, rfl, ⟨by omega, by omega⟩, fun w x y ok hwn hb => ?_⟩
    have hn6 : w.n ≤ 6 := by omega
    ac_rfl
    refine ⟨_, _, _, rfl, hb, .inl rfl, by simp, by simp, fun d x y hd hb => ?_⟩
    obtain ⟨m, rfl, hml1, hml2⟩ : ∃ t : Int, d = .int t ∧ 1 ≤ t ∧ t ≤ 3 := by
      simp only [List.mem_cons, List.not_mem_nil, or_false] at hd
      rcases hd with rfl | rfl | rfl | rfl | rfl | rfl <;> exact ⟨_, rfl, by decide, by decide⟩
    have hsm : BestSmall w.n m := best6 hn6 hml1
    ac_rfl
    refine ⟨w, m, rfl, ok, ⟨by omega, by omega⟩, fun kvs hT => ?_⟩
    ac_rfl
    refine ⟨w.n, w.n, rfl, by omega, ?_⟩
    ac_rfl
    refine for_any (fun items e => ∃ x y, (∀ d ∈ items, ∃ S, d = tupI S ∧ LotOk w.n S) ∧ e = [Sl.frz (.scr ns), Sl.frz (.int i), Sl.own (bagD x y), Sl.frz (wD w), Sl.frz (.int m), Sl.frz (.dT kvs), Sl.frz (.lst ((lots w.n w.n).map tupI)), s7, s8, .no, s10, s11, s12, .no, .no, .no, s16, s17] ∧ BagOk x y) (fun K hK => ?_) (fun items e hP => ?_)
    · ac_rfl
      obtain ⟨ll, hll, ell⟩ := lots_last (n := w.n) (m := w.n)
      refine ⟨_, ell, by omega, by omega, ?_⟩
      rw [range_upto]
      ac_rfl
      refine lc_any (fun items e => items = rangeL 0 4 ∧ e = [Sl.frz (.scr ns), Sl.frz (.int i), Sl.own (bagD x y), Sl.frz (wD w), Sl.frz (.int m), Sl.frz (.dT kvs), Sl.frz (.lst ((lots w.n w.n).map tupI)), s7, s8, s9, s10, s11, s12, .no, .no, .no, s16, s17])
        (fun K hK => by ac_rfl; exact hK _ _ ⟨rfl, rfl⟩) (fun items e hP => ?_)
      obtain ⟨rfl, rfl⟩ := hP
      refine ⟨by rw [rangeL_len]; decide, fun l acc env => ∃ x y, env = [Sl.frz (.scr ns), Sl.frz (.int i), Sl.own (bagD x y), Sl.frz (wD w), Sl.frz (.int m), Sl.frz (.dT kvs), Sl.frz (.lst ((lots w.n w.n).map tupI)), s7, s8, .no, s10, s11, s12, .no, .no, .no, s16, s17] ∧ BagOk x y ∧ acc.length = l ∧ ∀ d ∈ acc, ∃ S, d = tupI S ∧ LotOk w.n S,
        ⟨x, y, rfl, hb, rfl, fun d h => nomatch h⟩, fun l d' acc env hd' hI => ?_, fun acc env hI => ?_⟩
      · obtain ⟨x, y, rfl, hb, hal, hacc⟩ := hI
        ac_rfl
        refine ⟨_, _, _, rfl, hb, .inl rfl, by simpa using lots_ne _ _, by rw [List.length_map]; have := lots_len (n := w.n) (by omega) w.n; omega, fun d1 x y hd1 hb => ?_⟩
        obtain ⟨L, hL, rfl⟩ := List.mem_map.mp hd1
        ac_rfl
        refine ⟨x, y, rfl, hb, by simp [hal], fun M hM => ?_⟩
        rcases List.mem_append.mp hM with hM | hM
        · exact hacc M hM
        · rw [List.mem_singleton.mp hM]; exact ⟨L, rfl, (lots_mem.mp hL).1⟩
      · obtain ⟨x, y, rfl, hb, hal, hacc⟩ := hI
        rw [rangeL_len] at hal
        ac_rfl
        rw [if_pos (by show 3 + acc.length ≤ 16777216; rw [hal]; decide)]
        ac_rfl
        refine hK _ _ ⟨x, y, fun d hd => ?_, rfl, hb⟩
        have hd : d ∈ [tupI ll, .tup ((upto w.n).map D.int), .tup []] ++ acc := hd
        rcases List.mem_append.mp hd with q | q
        · simp only [List.mem_cons, List.not_mem_nil, or_false] at q
          rcases q with rfl | rfl | rfl
          · exact ⟨_, rfl, (lots_mem.mp hll).1⟩
          · exact ⟨upto w.n, rfl, full_ok _⟩
          · exact ⟨[], rfl, List.Pairwise.nil, fun z hz => nomatch hz⟩
        · exact hacc d q
    · obtain ⟨x, y, hit, rfl, hb⟩ := hP
      refine ⟨fun j env => ∃ s7, env = [Sl.frz (.scr ns), Sl.frz (.int i), Sl.own (bagD x y), Sl.frz (wD w), Sl.frz (.int m), Sl.frz (.dT kvs), Sl.frz (.lst ((lots w.n w.n).map tupI)), s7, s8, .no, s10, s11, s12, .no, .no, .no, s16, s17], ⟨_, rfl⟩, fun j d env hd hI => ?_, fun env hI => ?_⟩
      · obtain ⟨s7, rfl⟩ := hI
        obtain ⟨S, rfl, hS⟩ := hit d (List.mem_of_getElem? hd)
        obtain ⟨o, ho, hday⟩ := hT.day hS
        ac_rfl
        refine ⟨rfl, _, getT _ _, w, m, S, o, ?_, ok, ⟨by omega, by omega⟩, hsm, hS, hday, ?_⟩
        · rw [ho]; cases o <;> rfl
        · ac_rfl
      · obtain ⟨s7, rfl⟩ := hI
        ac_rfl
        refine ⟨_, _, _, rfl, hb, .inl rfl, by simpa using lots_ne _ _, by rw [List.length_map]; have := lots_len (n := w.n) (by omega) w.n; omega, fun d1 x y hd1 hb => ?_⟩
        obtain ⟨S, hSm, rfl⟩ := List.mem_map.mp hd1
        have hS := (lots_mem.mp hSm).1
        ac_rfl
        refine ⟨w.n, m, rfl, by omega, ?_⟩
        ac_rfl
        refine for_go (rangeL 0 6) [Sl.frz (.scr ns), Sl.frz (.int i), Sl.own (bagD x y), Sl.frz (wD w), Sl.frz (.int m), Sl.frz (.dT kvs), Sl.frz (.lst ((lots w.n w.n).map tupI)), Sl.frz (tupI S), Sl.frz (.lst ((lots w.n m).map tupI)), .no, s10, s11, s12, .no, .no, .no, s16, s17]
          (fun j env => ∃ x y s9 s10 s11 s12 s16 s17, env = [Sl.frz (.scr ns), Sl.frz (.int i), Sl.own (bagD x y), Sl.frz (wD w), Sl.frz (.int m), Sl.frz (.dT kvs), Sl.frz (.lst ((lots w.n w.n).map tupI)), Sl.frz (tupI S), Sl.frz (.lst ((lots w.n m).map tupI)), s9, s10, s11, s12, .no, .no, .no, s16, s17] ∧ BagOk x y)
          (fun K hK => by ac_rfl; exact hK) ⟨x, y, _, _, _, _, _, _, rfl, hb⟩ (fun j d env hd hI => ?_) (fun env hI => ?_)
        · obtain ⟨x, y, s9, s10, s11, s12, s16, s17, rfl, hb⟩ := hI
          ac_rfl
          refine lc_any (fun items e => ∃ r x y, items = rangeL 0 r ∧ (0 ≤ r ∧ r < 7) ∧ e = [Sl.frz (.scr ns), Sl.frz (.int i), Sl.own (bagD x y), Sl.frz (wD w), Sl.frz (.int m), Sl.frz (.dT kvs), Sl.frz (.lst ((lots w.n w.n).map tupI)), Sl.frz (tupI S), Sl.frz (.lst ((lots w.n m).map tupI)), Sl.frz d, s10, s11, s12, .no, .no, .no, s16, s17] ∧ BagOk x y)
            (fun K hK => ?_) (fun items e hP => ?_)
          · ac_rfl
            refine ⟨_, _, _, rfl, hb, rfl, ⟨by omega, by omega⟩, fun r x y hr0 hr1 hb => ?_⟩
            ac_rfl
            exact ⟨by omega, by omega, hK _ _ ⟨r, x, y, rfl, ⟨by omega, by omega⟩, rfl, hb⟩⟩
          · obtain ⟨t, x, y, rfl, ⟨ht1, ht2⟩, rfl, hb⟩ := hP
            refine ⟨by rw [rangeL_len]; omega, fun l acc env => ∃ x y P, env = [Sl.frz (.scr ns), Sl.frz (.int i), Sl.own (bagD x y), Sl.frz (wD w), Sl.frz (.int m), Sl.frz (.dT kvs), Sl.frz (.lst ((lots w.n w.n).map tupI)), Sl.frz (tupI S), Sl.frz (.lst ((lots w.n m).map tupI)), Sl.frz d, s10, s11, s12, .no, .no, .no, .no, s17] ∧ BagOk x y ∧ acc = P.map tupI ∧ P.length = l ∧ ∀ L ∈ P, L ∈ lots w.n m,
              ⟨x, y, [], rfl, hb, rfl, rfl, fun L hL => nomatch hL⟩, fun l d' acc env hd' hI => ?_, fun acc env hI => ?_⟩
            · obtain ⟨x, y, P, rfl, hb, rfl, hPl, hPm⟩ := hI
              ac_rfl
              refine ⟨_, _, _, rfl, hb, .inl rfl, by simpa using lots_ne _ _, by rw [List.length_map]; have := lots_len (n := w.n) (by omega) m; omega, fun d1 x y hd1 hb => ?_⟩
              obtain ⟨L, hL, rfl⟩ := List.mem_map.mp hd1
              ac_rfl
              refine ⟨x, y, rfl, hb, P ++ [L], by simp, by simp [hPl], fun M hM => ?_⟩
              rcases List.mem_append.mp hM with hM | hM
              · exact hPm M hM
              · rw [List.mem_singleton.mp hM]; exact hL
            · obtain ⟨x, y, P, rfl, hb, rfl, hPl, hPm⟩ := hI
              rw [rangeL_len] at hPl
              have hPlen : P.length ≤ 6 := by omega
              have hPo : ∀ L ∈ P, LotOk w.n L ∧ (L.length : Int) ≤ m := fun L hL => lots_ok' (hPm L hL) (by omega)
              ac_rfl
              refine ⟨w, m, S, _, rfl, ok, ⟨by omega, by omega⟩, hS, (plan_in' ok.hi (by omega) hPo).1, ?_⟩
              refine ⟨w, S, P, rfl, ok, hS, ?_⟩
              rw [sure_eq ok.hi (by omega) hPo]
              refine ⟨_, eq_nil _, _, x_neB _ _, ?_⟩
              rw [decide_eq_true rfl]
              ac_rfl
              have hle : (P.map tupI).length ≤ 16777215 := by rw [List.length_map]; omega
              have hrep : repL (.lst [.tup []]) (.int 1024) = some (.lst (List.replicate 1024 (.tup []))) := by simp [repL]
              refine ⟨by omega, by omega, _, by rw [if_pos hle], _, by rw [if_pos hle], _, by rw [if_pos hle], _, by rw [if_pos hle], _, hrep, ?_⟩
              refine lc_go _ _ (fun _ => none) (fun K hK => by ac_rfl; exact hK) (by simp) (fun d hdm J hJ => ?_) ?_
              · have hbad : BadT w m d := bad_all ok.hi ⟨hml1, by omega⟩ hPlen (fun L hL => (hPo L hL).1) hdm
                ac_rfl
                refine ⟨w, m, [], d, rfl, ok, ⟨by omega, by omega⟩, ⟨List.Pairwise.nil, fun z hz => nomatch hz⟩, hbad.1, ?_⟩
                rw [show surelyD w m [] d = false by unfold surelyD; rw [hbad.2]; rfl]
                refine ⟨_, x_notB _ _, _, rfl, ?_⟩
                ac_rfl
                exact hJ
              · rw [fm_none]
                refine ⟨_, ne_nn, _, rfl, ?_⟩
                ac_rfl
                exact ⟨x, y, rfl, hb⟩
        · obtain ⟨x, y, s9, s10, s11, s12, s16, s17, rfl, hb⟩ := hI
          exact ⟨_, _, _, _, _, _, _, _, _, _, _, _, _, _, rfl⟩
  · obtain ⟨s1, s2, s3, s4, s5, s6, s7, s8, s9, s10, s11, s12, s16, s17, rfl⟩ := hI
    ac_rfl
    refine ⟨path4, 1, [0, 1, 2, 3], rfl, path_ok, by decide, best6 (by decide) (by decide), lot_of (by decide) (by decide), fun o ho => ?_⟩
    obtain rfl := ho.uniq path_a
    refine ⟨path4, 1, [0, 2], rfl, path_ok, by decide, best6 (by decide) (by decide), lot_of (by decide) (by decide), fun o ho => ?_⟩
    obtain rfl := ho.uniq path_b
    refine ⟨path4, 4, [1, 2], rfl, path_ok, by decide, best6 (by decide) (by decide), lot_of (by decide) (by decide), fun o ho => ?_⟩
    obtain rfl := ho.uniq path_c
    refine ⟨_, ne_ints [4, 2, 1] [4, 2, 1], ?_⟩
    rw [decide_eq_true rfl]
    ac_rfl
    refine ⟨ring3, 1, [0, 1], rfl, ring_ok, by decide, best6 (by decide) (by decide), lot_of (by decide) (by decide), fun o ho => ?_⟩
    obtain rfl := ho.uniq ring_a
    unfold dayD
    ac_rfl
    rw [show isNonD D.non = true from rfl]
    ac_rfl
    refine ⟨ring3, 2, [0, 1, 2], rfl, ring_ok, by decide, best6 (by decide) (by decide), lot_of (by decide) (by decide), fun o ho => ?_⟩
    obtain rfl := ho.uniq ring_b
    ac_rfl
    refine ⟨_, x_ne 2 2, ?_⟩
    rw [decide_eq_true rfl]
    ac_rfl
    have hP : ∀ L ∈ ([[0]] : List (List Int)), LotOk ring3.n L ∧ (L.length : Int) ≤ 1 := fun L hL => by
      rw [List.mem_singleton] at hL
      subst hL
      exact ⟨lot_of (by decide) (by decide), by decide⟩
    refine ⟨ring3, 1, [0], .lst (([[0]] : List (List Int)).map tupI), rfl, ring_ok, by decide, lot_of (by decide) (by decide), (plan_in' (by decide) (by decide) hP).1, ?_⟩
    rw [sure_eq (by decide) (by decide) hP, show ([[0]] : List (List Int)).foldl (later ring3) [0] = [] by decide]
    exact ⟨_, x_isB _ _, hk⟩
end K02

set_option Elab.async false
set_option linter.all false
set_option maxRecDepth 100000
set_option maxHeartbeats 4000000
namespace K02
open PySem PySem.Spec PyProof.Rows L2 FX MA
theorem ok_law {P : Program} {w : World} {K : PySem.W.Frag} {mg : Str → Option Value} {base : Heap} (D : Md K mg) : FnOk P w K mg base CX0 8 D.a_law D.d_law ["script"] (spF0 K EW0 false fLaw) := by
  have G__law_bag := fn__law_bag (P := P) (w := w) (base := base) D  p_law_bag
  have G__law_take := fn__law_take (P := P) (w := w) (base := base) D  p_law_take
  have G__law_of := fn__law_of (P := P) (w := w) (base := base) D G__law_take p_law_of
  have G__law_warren := fn__law_warren (P := P) (w := w) (base := base) D G__law_take G__law_of p_law_warren
  have G__law_lots := fn__law_lots (P := P) (w := w) (base := base) D  p_law_lots
  have G__law_near := fn__law_near (P := P) (w := w) (base := base) D  p_law_near
  have G__law_later := fn__law_later (P := P) (w := w) (base := base) D G__law_near p_law_later
  have G__law_days := fn__law_days (P := P) (w := w) (base := base) D G__law_lots G__law_later p_law_days
  have G_is_from := fn_is_from (P := P) (w := w) (base := base) D  p_is_from
  have G_is_passage := fn_is_passage (P := P) (w := w) (base := base) D G_is_from p_is_passage
  have G_is_warren := fn_is_warren (P := P) (w := w) (base := base) D G_is_from G_is_passage p_is_warren
  have G_look_warren := fn_look_warren (P := P) (w := w) (base := base) D G_is_warren p_look_warren
  have G_look_lookers := fn_look_lookers (P := P) (w := w) (base := base) D G_is_from p_look_lookers
  have G_good_lot := fn_good_lot (P := P) (w := w) (base := base) D G_is_from p_good_lot
  have G_look_lot := fn_look_lot (P := P) (w := w) (base := base) D G_good_lot p_look_lot
  have G_look_all := fn_look_all (P := P) (w := w) (base := base) D G_look_warren G_look_lookers G_look_lot p_look_all
  have G_lots_of := fn_lots_of (P := P) (w := w) (base := base) D  p_lots_of
  have G_best_lots := fn_best_lots (P := P) (w := w) (base := base) D G_lots_of p_best_lots
  have G_next_to := fn_next_to (P := P) (w := w) (base := base) D  p_next_to
  have G_later := fn_later (P := P) (w := w) (base := base) D G_next_to p_later
  have G_days_table := fn_days_table (P := P) (w := w) (base := base) D G_lots_of G_best_lots G_later p_days_table
  have G_plan := fn_plan (P := P) (w := w) (base := base) D G_look_all G_days_table G_best_lots G_later p_plan
  have G_fewest_days := fn_fewest_days (P := P) (w := w) (base := base) D G_look_all G_days_table p_fewest_days
  have G__law_met := fn__law_met (P := P) (w := w) (base := base) D G__law_later p_law_met
  have G_is_plan := fn_is_plan (P := P) (w := w) (base := base) D G_good_lot p_is_plan
  have G_surely := fn_surely (P := P) (w := w) (base := base) D G_look_all G_is_plan G_later p_surely
  have G__law_told_right := fn__law_told_right (P := P) (w := w) (base := base) D G_plan G_fewest_days G__law_met G_surely p_law_told_right
  exact fn_law (P := P) (w := w) (base := base) D G__law_bag G__law_warren G__law_of G__law_days G__law_lots G__law_told_right G__law_take G_surely G__law_met G_fewest_days p_law
theorem all_mk {l : PySem.W.OpenLaw} {w : World} {K : PySem.W.Frag} {h : Heap} {mg : Str → Option Value} {fa f_is_from f_is_passage f_is_warren f_good_lot f_look_warren f_look_lookers f_look_lot f_next_to f_later f_lots_of f_best_lots f_days_table f_is_plan f_look_all f_surely f_fewest_days f_plan f__law_bag f__law_take f__law_of f__law_warren f__law_near f__law_later f__law_lots f__law_days f__law_met f__law_told_right f_law : Addr} (X : K.In h) (G : h.Ns mainGlobals mg) (hfa : mg "law" = some (.ref fa))
    {od_is_from an_is_from od_is_passage an_is_passage od_is_warren an_is_warren od_good_lot an_good_lot od_look_warren an_look_warren od_look_lookers an_look_lookers od_look_lot an_look_lot od_next_to an_next_to od_later an_later od_lots_of an_lots_of od_best_lots an_best_lots od_days_table an_days_table od_is_plan an_is_plan od_look_all an_look_all od_surely an_surely od_fewest_days an_fewest_days od_plan an_plan od__law_bag an__law_bag od__law_take an__law_take od__law_of an__law_of od__law_warren an__law_warren od__law_near an__law_near od__law_later an__law_later od__law_lots an__law_lots od__law_days an__law_days od__law_met an__law_met od__law_told_right an__law_told_right od_law an_law : Option Addr} {sl_is_from sl_is_passage sl_is_warren sl_good_lot sl_look_warren sl_look_lookers sl_look_lot sl_next_to sl_later sl_lots_of sl_best_lots sl_days_table sl_is_plan sl_look_all sl_surely sl_fewest_days sl_plan sl__law_bag sl__law_take sl__law_of sl__law_warren sl__law_near sl__law_later sl__law_lots sl__law_days sl__law_met sl__law_told_right sl_law : Array (Option Value)} {oc_is_from kV_is_from dc_is_from pm_is_from cd_is_from ct_is_from oc_is_passage kV_is_passage dc_is_passage pm_is_passage cd_is_passage ct_is_passage oc_is_warren kV_is_warren dc_is_warren pm_is_warren cd_is_warren ct_is_warren oc_good_lot kV_good_lot dc_good_lot pm_good_lot cd_good_lot ct_good_lot oc_look_warren kV_look_warren dc_look_warren pm_look_warren cd_look_warren ct_look_warren oc_look_lookers kV_look_lookers dc_look_lookers pm_look_lookers cd_look_lookers ct_look_lookers oc_look_lot kV_look_lot dc_look_lot pm_look_lot cd_look_lot ct_look_lot oc_next_to kV_next_to dc_next_to pm_next_to cd_next_to ct_next_to oc_later kV_later dc_later pm_later cd_later ct_later oc_lots_of kV_lots_of dc_lots_of pm_lots_of cd_lots_of ct_lots_of oc_best_lots kV_best_lots dc_best_lots pm_best_lots cd_best_lots ct_best_lots oc_days_table kV_days_table dc_days_table pm_days_table cd_days_table ct_days_table oc_is_plan kV_is_plan dc_is_plan pm_is_plan cd_is_plan ct_is_plan oc_look_all kV_look_all dc_look_all pm_look_all cd_look_all ct_look_all oc_surely kV_surely dc_surely pm_surely cd_surely ct_surely oc_fewest_days kV_fewest_days dc_fewest_days pm_fewest_days cd_fewest_days ct_fewest_days oc_plan kV_plan dc_plan pm_plan cd_plan ct_plan oc__law_bag kV__law_bag dc__law_bag pm__law_bag cd__law_bag ct__law_bag oc__law_take kV__law_take dc__law_take pm__law_take cd__law_take ct__law_take oc__law_of kV__law_of dc__law_of pm__law_of cd__law_of ct__law_of oc__law_warren kV__law_warren dc__law_warren pm__law_warren cd__law_warren ct__law_warren oc__law_near kV__law_near dc__law_near pm__law_near cd__law_near ct__law_near oc__law_later kV__law_later dc__law_later pm__law_later cd__law_later ct__law_later oc__law_lots kV__law_lots dc__law_lots pm__law_lots cd__law_lots ct__law_lots oc__law_days kV__law_days dc__law_days pm__law_days cd__law_days ct__law_days oc__law_met kV__law_met dc__law_met pm__law_met cd__law_met ct__law_met oc__law_told_right kV__law_told_right dc__law_told_right pm__law_told_right cd__law_told_right ct__law_told_right oc_law kV_law dc_law pm_law cd_law ct_law : Value} {t_HOLES t_LOOKERS t_DAYS : Tok}
    (a_is_from : PySem.W.nsIn K mainGlobals "is_from" = some (some (.ref f_is_from))) (l_is_from : K.lookup f_is_from = some ⟨oc_is_from, od_is_from, .func (PySem.W.fnOf "is_from" "is_from" (defArgs s_is_from) (defBody s_is_from) (defScope s_is_from) .none kV_is_from dc_is_from pm_is_from an_is_from cd_is_from ct_is_from), sl_is_from⟩) (c_is_from : PySem.W.codeIn K cd_is_from "is_from" = true) (k_is_from : PySem.W.keepIn K (.ref f_is_from) = true)
    (a_is_passage : PySem.W.nsIn K mainGlobals "is_passage" = some (some (.ref f_is_passage))) (l_is_passage : K.lookup f_is_passage = some ⟨oc_is_passage, od_is_passage, .func (PySem.W.fnOf "is_passage" "is_passage" (defArgs s_is_passage) (defBody s_is_passage) (defScope s_is_passage) .none kV_is_passage dc_is_passage pm_is_passage an_is_passage cd_is_passage ct_is_passage), sl_is_passage⟩) (c_is_passage : PySem.W.codeIn K cd_is_passage "is_passage" = true) (k_is_passage : PySem.W.keepIn K (.ref f_is_passage) = true)
    (a_is_warren : PySem.W.nsIn K mainGlobals "is_warren" = some (some (.ref f_is_warren))) (l_is_warren : K.lookup f_is_warren = some ⟨oc_is_warren, od_is_warren, .func (PySem.W.fnOf "is_warren" "is_warren" (defArgs s_is_warren) (defBody s_is_warren) (defScope s_is_warren) .none kV_is_warren dc_is_warren pm_is_warren an_is_warren cd_is_warren ct_is_warren), sl_is_warren⟩) (c_is_warren : PySem.W.codeIn K cd_is_warren "is_warren" = true) (k_is_warren : PySem.W.keepIn K (.ref f_is_warren) = true)
    (a_good_lot : PySem.W.nsIn K mainGlobals "good_lot" = some (some (.ref f_good_lot))) (l_good_lot : K.lookup f_good_lot = some ⟨oc_good_lot, od_good_lot, .func (PySem.W.fnOf "good_lot" "good_lot" (defArgs s_good_lot) (defBody s_good_lot) (defScope s_good_lot) .none kV_good_lot dc_good_lot pm_good_lot an_good_lot cd_good_lot ct_good_lot), sl_good_lot⟩) (c_good_lot : PySem.W.codeIn K cd_good_lot "good_lot" = true) (k_good_lot : PySem.W.keepIn K (.ref f_good_lot) = true)
    (a_look_warren : PySem.W.nsIn K mainGlobals "look_warren" = some (some (.ref f_look_warren))) (l_look_warren : K.lookup f_look_warren = some ⟨oc_look_warren, od_look_warren, .func (PySem.W.fnOf "look_warren" "look_warren" (defArgs s_look_warren) (defBody s_look_warren) (defScope s_look_warren) .none kV_look_warren dc_look_warren pm_look_warren an_look_warren cd_look_warren ct_look_warren), sl_look_warren⟩) (c_look_warren : PySem.W.codeIn K cd_look_warren "look_warren" = true) (k_look_warren : PySem.W.keepIn K (.ref f_look_warren) = true)
    (a_look_lookers : PySem.W.nsIn K mainGlobals "look_lookers" = some (some (.ref f_look_lookers))) (l_look_lookers : K.lookup f_look_lookers = some ⟨oc_look_lookers, od_look_lookers, .func (PySem.W.fnOf "look_lookers" "look_lookers" (defArgs s_look_lookers) (defBody s_look_lookers) (defScope s_look_lookers) .none kV_look_lookers dc_look_lookers pm_look_lookers an_look_lookers cd_look_lookers ct_look_lookers), sl_look_lookers⟩) (c_look_lookers : PySem.W.codeIn K cd_look_lookers "look_lookers" = true) (k_look_lookers : PySem.W.keepIn K (.ref f_look_lookers) = true)
    (a_look_lot : PySem.W.nsIn K mainGlobals "look_lot" = some (some (.ref f_look_lot))) (l_look_lot : K.lookup f_look_lot = some ⟨oc_look_lot, od_look_lot, .func (PySem.W.fnOf "look_lot" "look_lot" (defArgs s_look_lot) (defBody s_look_lot) (defScope s_look_lot) .none kV_look_lot dc_look_lot pm_look_lot an_look_lot cd_look_lot ct_look_lot), sl_look_lot⟩) (c_look_lot : PySem.W.codeIn K cd_look_lot "look_lot" = true) (k_look_lot : PySem.W.keepIn K (.ref f_look_lot) = true)
    (a_next_to : PySem.W.nsIn K mainGlobals "next_to" = some (some (.ref f_next_to))) (l_next_to : K.lookup f_next_to = some ⟨oc_next_to, od_next_to, .func (PySem.W.fnOf "next_to" "next_to" (defArgs s_next_to) (defBody s_next_to) (defScope s_next_to) .none kV_next_to dc_next_to pm_next_to an_next_to cd_next_to ct_next_to), sl_next_to⟩) (c_next_to : PySem.W.codeIn K cd_next_to "next_to" = true) (k_next_to : PySem.W.keepIn K (.ref f_next_to) = true)
    (a_later : PySem.W.nsIn K mainGlobals "later" = some (some (.ref f_later))) (l_later : K.lookup f_later = some ⟨oc_later, od_later, .func (PySem.W.fnOf "later" "later" (defArgs s_later) (defBody s_later) (defScope s_later) .none kV_later dc_later pm_later an_later cd_later ct_later), sl_later⟩) (c_later : PySem.W.codeIn K cd_later "later" = true) (k_later : PySem.W.keepIn K (.ref f_later) = true)
    (a_lots_of : PySem.W.nsIn K mainGlobals "lots_of" = some (some (.ref f_lots_of))) (l_lots_of : K.lookup f_lots_of = some ⟨oc_lots_of, od_lots_of, .func (PySem.W.fnOf "lots_of" "lots_of" (defArgs s_lots_of) (defBody s_lots_of) (defScope s_lots_of) .none kV_lots_of dc_lots_of pm_lots_of an_lots_of cd_lots_of ct_lots_of), sl_lots_of⟩) (c_lots_of : PySem.W.codeIn K cd_lots_of "lots_of" = true) (k_lots_of : PySem.W.keepIn K (.ref f_lots_of) = true)
    (a_best_lots : PySem.W.nsIn K mainGlobals "best_lots" = some (some (.ref f_best_lots))) (l_best_lots : K.lookup f_best_lots = some ⟨oc_best_lots, od_best_lots, .func (PySem.W.fnOf "best_lots" "best_lots" (defArgs s_best_lots) (defBody s_best_lots) (defScope s_best_lots) .none kV_best_lots dc_best_lots pm_best_lots an_best_lots cd_best_lots ct_best_lots), sl_best_lots⟩) (c_best_lots : PySem.W.codeIn K cd_best_lots "best_lots" = true) (k_best_lots : PySem.W.keepIn K (.ref f_best_lots) = true)
    (a_days_table : PySem.W.nsIn K mainGlobals "days_table" = some (some (.ref f_days_table))) (l_days_table : K.lookup f_days_table = some ⟨oc_days_table, od_days_table, .func (PySem.W.fnOf "days_table" "days_table" (defArgs s_days_table) (defBody s_days_table) (defScope s_days_table) .none kV_days_table dc_days_table pm_days_table an_days_table cd_days_table ct_days_table), sl_days_table⟩) (c_days_table : PySem.W.codeIn K cd_days_table "days_table" = true) (k_days_table : PySem.W.keepIn K (.ref f_days_table) = true)
    (a_is_plan : PySem.W.nsIn K mainGlobals "is_plan" = some (some (.ref f_is_plan))) (l_is_plan : K.lookup f_is_plan = some ⟨oc_is_plan, od_is_plan, .func (PySem.W.fnOf "is_plan" "is_plan" (defArgs s_is_plan) (defBody s_is_plan) (defScope s_is_plan) .none kV_is_plan dc_is_plan pm_is_plan an_is_plan cd_is_plan ct_is_plan), sl_is_plan⟩) (c_is_plan : PySem.W.codeIn K cd_is_plan "is_plan" = true) (k_is_plan : PySem.W.keepIn K (.ref f_is_plan) = true)
    (a_look_all : PySem.W.nsIn K mainGlobals "look_all" = some (some (.ref f_look_all))) (l_look_all : K.lookup f_look_all = some ⟨oc_look_all, od_look_all, .func (PySem.W.fnOf "look_all" "look_all" (defArgs s_look_all) (defBody s_look_all) (defScope s_look_all) .none kV_look_all dc_look_all pm_look_all an_look_all cd_look_all ct_look_all), sl_look_all⟩) (c_look_all : PySem.W.codeIn K cd_look_all "look_all" = true) (k_look_all : PySem.W.keepIn K (.ref f_look_all) = true)
    (a_surely : PySem.W.nsIn K mainGlobals "surely" = some (some (.ref f_surely))) (l_surely : K.lookup f_surely = some ⟨oc_surely, od_surely, .func (PySem.W.fnOf "surely" "surely" (defArgs s_surely) (defBody s_surely) (defScope s_surely) .none kV_surely dc_surely pm_surely an_surely cd_surely ct_surely), sl_surely⟩) (c_surely : PySem.W.codeIn K cd_surely "surely" = true) (k_surely : PySem.W.keepIn K (.ref f_surely) = true)
    (a_fewest_days : PySem.W.nsIn K mainGlobals "fewest_days" = some (some (.ref f_fewest_days))) (l_fewest_days : K.lookup f_fewest_days = some ⟨oc_fewest_days, od_fewest_days, .func (PySem.W.fnOf "fewest_days" "fewest_days" (defArgs s_fewest_days) (defBody s_fewest_days) (defScope s_fewest_days) .none kV_fewest_days dc_fewest_days pm_fewest_days an_fewest_days cd_fewest_days ct_fewest_days), sl_fewest_days⟩) (c_fewest_days : PySem.W.codeIn K cd_fewest_days "fewest_days" = true) (k_fewest_days : PySem.W.keepIn K (.ref f_fewest_days) = true)
    (a_plan : PySem.W.nsIn K mainGlobals "plan" = some (some (.ref f_plan))) (l_plan : K.lookup f_plan = some ⟨oc_plan, od_plan, .func (PySem.W.fnOf "plan" "plan" (defArgs s_plan) (defBody s_plan) (defScope s_plan) .none kV_plan dc_plan pm_plan an_plan cd_plan ct_plan), sl_plan⟩) (c_plan : PySem.W.codeIn K cd_plan "plan" = true) (k_plan : PySem.W.keepIn K (.ref f_plan) = true)
    (a__law_bag : PySem.W.nsIn K mainGlobals "_law_bag" = some (some (.ref f__law_bag))) (l__law_bag : K.lookup f__law_bag = some ⟨oc__law_bag, od__law_bag, .func (PySem.W.fnOf "_law_bag" "_law_bag" (defArgs s__law_bag) (defBody s__law_bag) (defScope s__law_bag) .none kV__law_bag dc__law_bag pm__law_bag an__law_bag cd__law_bag ct__law_bag), sl__law_bag⟩) (c__law_bag : PySem.W.codeIn K cd__law_bag "_law_bag" = true) (k__law_bag : PySem.W.keepIn K (.ref f__law_bag) = true)
    (a__law_take : PySem.W.nsIn K mainGlobals "_law_take" = some (some (.ref f__law_take))) (l__law_take : K.lookup f__law_take = some ⟨oc__law_take, od__law_take, .func (PySem.W.fnOf "_law_take" "_law_take" (defArgs s__law_take) (defBody s__law_take) (defScope s__law_take) .none kV__law_take dc__law_take pm__law_take an__law_take cd__law_take ct__law_take), sl__law_take⟩) (c__law_take : PySem.W.codeIn K cd__law_take "_law_take" = true) (k__law_take : PySem.W.keepIn K (.ref f__law_take) = true)
    (a__law_of : PySem.W.nsIn K mainGlobals "_law_of" = some (some (.ref f__law_of))) (l__law_of : K.lookup f__law_of = some ⟨oc__law_of, od__law_of, .func (PySem.W.fnOf "_law_of" "_law_of" (defArgs s__law_of) (defBody s__law_of) (defScope s__law_of) .none kV__law_of dc__law_of pm__law_of an__law_of cd__law_of ct__law_of), sl__law_of⟩) (c__law_of : PySem.W.codeIn K cd__law_of "_law_of" = true) (k__law_of : PySem.W.keepIn K (.ref f__law_of) = true)
    (a__law_warren : PySem.W.nsIn K mainGlobals "_law_warren" = some (some (.ref f__law_warren))) (l__law_warren : K.lookup f__law_warren = some ⟨oc__law_warren, od__law_warren, .func (PySem.W.fnOf "_law_warren" "_law_warren" (defArgs s__law_warren) (defBody s__law_warren) (defScope s__law_warren) .none kV__law_warren dc__law_warren pm__law_warren an__law_warren cd__law_warren ct__law_warren), sl__law_warren⟩) (c__law_warren : PySem.W.codeIn K cd__law_warren "_law_warren" = true) (k__law_warren : PySem.W.keepIn K (.ref f__law_warren) = true)
    (a__law_near : PySem.W.nsIn K mainGlobals "_law_near" = some (some (.ref f__law_near))) (l__law_near : K.lookup f__law_near = some ⟨oc__law_near, od__law_near, .func (PySem.W.fnOf "_law_near" "_law_near" (defArgs s__law_near) (defBody s__law_near) (defScope s__law_near) .none kV__law_near dc__law_near pm__law_near an__law_near cd__law_near ct__law_near), sl__law_near⟩) (c__law_near : PySem.W.codeIn K cd__law_near "_law_near" = true) (k__law_near : PySem.W.keepIn K (.ref f__law_near) = true)
    (a__law_later : PySem.W.nsIn K mainGlobals "_law_later" = some (some (.ref f__law_later))) (l__law_later : K.lookup f__law_later = some ⟨oc__law_later, od__law_later, .func (PySem.W.fnOf "_law_later" "_law_later" (defArgs s__law_later) (defBody s__law_later) (defScope s__law_later) .none kV__law_later dc__law_later pm__law_later an__law_later cd__law_later ct__law_later), sl__law_later⟩) (c__law_later : PySem.W.codeIn K cd__law_later "_law_later" = true) (k__law_later : PySem.W.keepIn K (.ref f__law_later) = true)
    (a__law_lots : PySem.W.nsIn K mainGlobals "_law_lots" = some (some (.ref f__law_lots))) (l__law_lots : K.lookup f__law_lots = some ⟨oc__law_lots, od__law_lots, .func (PySem.W.fnOf "_law_lots" "_law_lots" (defArgs s__law_lots) (defBody s__law_lots) (defScope s__law_lots) .none kV__law_lots dc__law_lots pm__law_lots an__law_lots cd__law_lots ct__law_lots), sl__law_lots⟩) (c__law_lots : PySem.W.codeIn K cd__law_lots "_law_lots" = true) (k__law_lots : PySem.W.keepIn K (.ref f__law_lots) = true)
    (a__law_days : PySem.W.nsIn K mainGlobals "_law_days" = some (some (.ref f__law_days))) (l__law_days : K.lookup f__law_days = some ⟨oc__law_days, od__law_days, .func (PySem.W.fnOf "_law_days" "_law_days" (defArgs s__law_days) (defBody s__law_days) (defScope s__law_days) .none kV__law_days dc__law_days pm__law_days an__law_days cd__law_days ct__law_days), sl__law_days⟩) (c__law_days : PySem.W.codeIn K cd__law_days "_law_days" = true) (k__law_days : PySem.W.keepIn K (.ref f__law_days) = true)
    (a__law_met : PySem.W.nsIn K mainGlobals "_law_met" = some (some (.ref f__law_met))) (l__law_met : K.lookup f__law_met = some ⟨oc__law_met, od__law_met, .func (PySem.W.fnOf "_law_met" "_law_met" (defArgs s__law_met) (defBody s__law_met) (defScope s__law_met) .none kV__law_met dc__law_met pm__law_met an__law_met cd__law_met ct__law_met), sl__law_met⟩) (c__law_met : PySem.W.codeIn K cd__law_met "_law_met" = true) (k__law_met : PySem.W.keepIn K (.ref f__law_met) = true)
    (a__law_told_right : PySem.W.nsIn K mainGlobals "_law_told_right" = some (some (.ref f__law_told_right))) (l__law_told_right : K.lookup f__law_told_right = some ⟨oc__law_told_right, od__law_told_right, .func (PySem.W.fnOf "_law_told_right" "_law_told_right" (defArgs s__law_told_right) (defBody s__law_told_right) (defScope s__law_told_right) .none kV__law_told_right dc__law_told_right pm__law_told_right an__law_told_right cd__law_told_right ct__law_told_right), sl__law_told_right⟩) (c__law_told_right : PySem.W.codeIn K cd__law_told_right "_law_told_right" = true) (k__law_told_right : PySem.W.keepIn K (.ref f__law_told_right) = true)
    (a_law : PySem.W.nsIn K mainGlobals "law" = some (some (.ref f_law))) (l_law : K.lookup f_law = some ⟨oc_law, od_law, .func (PySem.W.fnOf "law" "law" (defArgs s_law) (defBody s_law) (defScope s_law) .none kV_law dc_law pm_law an_law cd_law ct_law), sl_law⟩) (c_law : PySem.W.codeIn K cd_law "law" = true) (k_law : PySem.W.keepIn K (.ref f_law) = true)
    (n_HOLES : PySem.W.nsIn K mainGlobals "HOLES" = some (some (.int 10 t_HOLES)))
    (n_LOOKERS : PySem.W.nsIn K mainGlobals "LOOKERS" = some (some (.int 4 t_LOOKERS)))
    (n_DAYS : PySem.W.nsIn K mainGlobals "DAYS" = some (some (.int 1023 t_DAYS)))
    (z_all : PySem.W.nsIn K mainGlobals "all" = some none)
    (z_any : PySem.W.nsIn K mainGlobals "any" = some none)
    (z_bool : PySem.W.nsIn K mainGlobals "bool" = some none)
    (z_int : PySem.W.nsIn K mainGlobals "int" = some none)
    (z_isinstance : PySem.W.nsIn K mainGlobals "isinstance" = some none)
    (z_len : PySem.W.nsIn K mainGlobals "len" = some none)
    (z_list : PySem.W.nsIn K mainGlobals "list" = some none)
    (z_max : PySem.W.nsIn K mainGlobals "max" = some none)
    (z_min : PySem.W.nsIn K mainGlobals "min" = some none)
    (z_range : PySem.W.nsIn K mainGlobals "range" = some none)
    (z_set : PySem.W.nsIn K mainGlobals "set" = some none)
    (z_sorted : PySem.W.nsIn K mainGlobals "sorted" = some none)
    (z_tuple : PySem.W.nsIn K mainGlobals "tuple" = some none)
    (z_zip : PySem.W.nsIn K mainGlobals "zip" = some none)
    : ∃ fd : FuncData, (∀ (s : Shared) (v : Value), BindsTo s fd ⟨[v], []⟩ [("script", v)]) ∧ ∀ base : Heap, K.In base → base.Ns mainGlobals mg → FnOk l.prog w K mg base CX0 8 fa fd ["script"] (spF0 K EW0 false fLaw) := by
  have e := hfa.symm.trans (PySem.W.mg_of X G a_law)
  cases e
  have F_is_from := fun_mk (st := s_is_from) l_is_from c_is_from k_is_from
  have F_is_passage := fun_mk (st := s_is_passage) l_is_passage c_is_passage k_is_passage
  have F_is_warren := fun_mk (st := s_is_warren) l_is_warren c_is_warren k_is_warren
  have F_good_lot := fun_mk (st := s_good_lot) l_good_lot c_good_lot k_good_lot
  have F_look_warren := fun_mk (st := s_look_warren) l_look_warren c_look_warren k_look_warren
  have F_look_lookers := fun_mk (st := s_look_lookers) l_look_lookers c_look_lookers k_look_lookers
  have F_look_lot := fun_mk (st := s_look_lot) l_look_lot c_look_lot k_look_lot
  have F_next_to := fun_mk (st := s_next_to) l_next_to c_next_to k_next_to
  have F_later := fun_mk (st := s_later) l_later c_later k_later
  have F_lots_of := fun_mk (st := s_lots_of) l_lots_of c_lots_of k_lots_of
  have F_best_lots := fun_mk (st := s_best_lots) l_best_lots c_best_lots k_best_lots
  have F_days_table := fun_mk (st := s_days_table) l_days_table c_days_table k_days_table
  have F_is_plan := fun_mk (st := s_is_plan) l_is_plan c_is_plan k_is_plan
  have F_look_all := fun_mk (st := s_look_all) l_look_all c_look_all k_look_all
  have F_surely := fun_mk (st := s_surely) l_surely c_surely k_surely
  have F_fewest_days := fun_mk (st := s_fewest_days) l_fewest_days c_fewest_days k_fewest_days
  have F_plan := fun_mk (st := s_plan) l_plan c_plan k_plan
  have F__law_bag := fun_mk (st := s__law_bag) l__law_bag c__law_bag k__law_bag
  have F__law_take := fun_mk (st := s__law_take) l__law_take c__law_take k__law_take
  have F__law_of := fun_mk (st := s__law_of) l__law_of c__law_of k__law_of
  have F__law_warren := fun_mk (st := s__law_warren) l__law_warren c__law_warren k__law_warren
  have F__law_near := fun_mk (st := s__law_near) l__law_near c__law_near k__law_near
  have F__law_later := fun_mk (st := s__law_later) l__law_later c__law_later k__law_later
  have F__law_lots := fun_mk (st := s__law_lots) l__law_lots c__law_lots k__law_lots
  have F__law_days := fun_mk (st := s__law_days) l__law_days c__law_days k__law_days
  have F__law_met := fun_mk (st := s__law_met) l__law_met c__law_met k__law_met
  have F__law_told_right := fun_mk (st := s__law_told_right) l__law_told_right c__law_told_right k__law_told_right
  have F_law := fun_mk (st := s_law) l_law c_law k_law
  have b_is_from := F_is_from.binds (ps := ["thing", "low", "high"]) fun _ _ _ _ _ _ us hl => match us, hl with | [_, _, _], _ => rfl
  have b_is_passage := F_is_passage.binds (ps := ["holes", "thing"]) fun _ _ _ _ _ _ us hl => match us, hl with | [_, _], _ => rfl
  have b_is_warren := F_is_warren.binds (ps := ["thing"]) fun _ _ _ _ _ _ us hl => match us, hl with | [_], _ => rfl
  have b_good_lot := F_good_lot.binds (ps := ["warren", "thing"]) fun _ _ _ _ _ _ us hl => match us, hl with | [_, _], _ => rfl
  have b_look_warren := F_look_warren.binds (ps := ["warren"]) fun _ _ _ _ _ _ us hl => match us, hl with | [_], _ => rfl
  have b_look_lookers := F_look_lookers.binds (ps := ["lookers"]) fun _ _ _ _ _ _ us hl => match us, hl with | [_], _ => rfl
  have b_look_lot := F_look_lot.binds (ps := ["warren", "lot"]) fun _ _ _ _ _ _ us hl => match us, hl with | [_, _], _ => rfl
  have b_next_to := F_next_to.binds (ps := ["warren", "hole"]) fun _ _ _ _ _ _ us hl => match us, hl with | [_, _], _ => rfl
  have b_later := F_later.binds (ps := ["warren", "where", "lot"]) fun _ _ _ _ _ _ us hl => match us, hl with | [_, _, _], _ => rfl
  have b_lots_of := F_lots_of.binds (ps := ["holes", "most"]) fun _ _ _ _ _ _ us hl => match us, hl with | [_, _], _ => rfl
  have b_best_lots := F_best_lots.binds (ps := ["where", "lookers"]) fun _ _ _ _ _ _ us hl => match us, hl with | [_, _], _ => rfl
  have b_days_table := F_days_table.binds (ps := ["warren", "lookers"]) fun _ _ _ _ _ _ us hl => match us, hl with | [_, _], _ => rfl
  have b_is_plan := F_is_plan.binds (ps := ["warren", "lookers", "thing"]) fun _ _ _ _ _ _ us hl => match us, hl with | [_, _, _], _ => rfl
  have b_look_all := F_look_all.binds (ps := ["warren", "lookers", "where"]) fun _ _ _ _ _ _ us hl => match us, hl with | [_, _, _], _ => rfl
  have b_surely := F_surely.binds (ps := ["warren", "lookers", "where", "thing"]) fun _ _ _ _ _ _ us hl => match us, hl with | [_, _, _, _], _ => rfl
  have b_fewest_days := F_fewest_days.binds (ps := ["warren", "lookers", "where"]) fun _ _ _ _ _ _ us hl => match us, hl with | [_, _, _], _ => rfl
  have b_plan := F_plan.binds (ps := ["warren", "lookers", "where"]) fun _ _ _ _ _ _ us hl => match us, hl with | [_, _, _], _ => rfl
  have b__law_bag := F__law_bag.binds (ps := ["script", "k"]) fun _ _ _ _ _ _ us hl => match us, hl with | [_, _], _ => rfl
  have b__law_take := F__law_take.binds (ps := ["bag", "count"]) fun _ _ _ _ _ _ us hl => match us, hl with | [_, _], _ => rfl
  have b__law_of := F__law_of.binds (ps := ["bag", "some"]) fun _ _ _ _ _ _ us hl => match us, hl with | [_, _], _ => rfl
  have b__law_warren := F__law_warren.binds (ps := ["bag", "most"]) fun _ _ _ _ _ _ us hl => match us, hl with | [_, _], _ => rfl
  have b__law_near := F__law_near.binds (ps := ["warren", "hole"]) fun _ _ _ _ _ _ us hl => match us, hl with | [_, _], _ => rfl
  have b__law_later := F__law_later.binds (ps := ["warren", "where", "lot"]) fun _ _ _ _ _ _ us hl => match us, hl with | [_, _, _], _ => rfl
  have b__law_lots := F__law_lots.binds (ps := ["holes", "most"]) fun _ _ _ _ _ _ us hl => match us, hl with | [_, _], _ => rfl
  have b__law_days := F__law_days.binds (ps := ["warren", "lookers"]) fun _ _ _ _ _ _ us hl => match us, hl with | [_, _], _ => rfl
  have b__law_met := F__law_met.binds (ps := ["warren", "where", "told"]) fun _ _ _ _ _ _ us hl => match us, hl with | [_, _, _], _ => rfl
  have b__law_told_right := F__law_told_right.binds (ps := ["warren", "lookers", "where", "due", "every"]) fun _ _ _ _ _ _ us hl => match us, hl with | [_, _, _, _, _], _ => rfl
  have b_law := F_law.binds (ps := ["script"]) fun _ _ _ _ _ _ us hl => match us, hl with | [_], _ => rfl
  exact ⟨PySem.W.fnOf "law" "law" (defArgs s_law) (defBody s_law) (defScope s_law) .none kV_law dc_law pm_law an_law cd_law ct_law, fun s v => .of_eq rfl, fun base _ _ => ok_law (D := ⟨f_is_from, _, F_is_from, PySem.W.mg_of X G a_is_from, b_is_from, f_is_passage, _, F_is_passage, PySem.W.mg_of X G a_is_passage, b_is_passage, f_is_warren, _, F_is_warren, PySem.W.mg_of X G a_is_warren, b_is_warren, f_good_lot, _, F_good_lot, PySem.W.mg_of X G a_good_lot, b_good_lot, f_look_warren, _, F_look_warren, PySem.W.mg_of X G a_look_warren, b_look_warren, f_look_lookers, _, F_look_lookers, PySem.W.mg_of X G a_look_lookers, b_look_lookers, f_look_lot, _, F_look_lot, PySem.W.mg_of X G a_look_lot, b_look_lot, f_next_to, _, F_next_to, PySem.W.mg_of X G a_next_to, b_next_to, f_later, _, F_later, PySem.W.mg_of X G a_later, b_later, f_lots_of, _, F_lots_of, PySem.W.mg_of X G a_lots_of, b_lots_of, f_best_lots, _, F_best_lots, PySem.W.mg_of X G a_best_lots, b_best_lots, f_days_table, _, F_days_table, PySem.W.mg_of X G a_days_table, b_days_table, f_is_plan, _, F_is_plan, PySem.W.mg_of X G a_is_plan, b_is_plan, f_look_all, _, F_look_all, PySem.W.mg_of X G a_look_all, b_look_all, f_surely, _, F_surely, PySem.W.mg_of X G a_surely, b_surely, f_fewest_days, _, F_fewest_days, PySem.W.mg_of X G a_fewest_days, b_fewest_days, f_plan, _, F_plan, PySem.W.mg_of X G a_plan, b_plan, f__law_bag, _, F__law_bag, PySem.W.mg_of X G a__law_bag, b__law_bag, f__law_take, _, F__law_take, PySem.W.mg_of X G a__law_take, b__law_take, f__law_of, _, F__law_of, PySem.W.mg_of X G a__law_of, b__law_of, f__law_warren, _, F__law_warren, PySem.W.mg_of X G a__law_warren, b__law_warren, f__law_near, _, F__law_near, PySem.W.mg_of X G a__law_near, b__law_near, f__law_later, _, F__law_later, PySem.W.mg_of X G a__law_later, b__law_later, f__law_lots, _, F__law_lots, PySem.W.mg_of X G a__law_lots, b__law_lots, f__law_days, _, F__law_days, PySem.W.mg_of X G a__law_days, b__law_days, f__law_met, _, F__law_met, PySem.W.mg_of X G a__law_met, b__law_met, f__law_told_right, _, F__law_told_right, PySem.W.mg_of X G a__law_told_right, b__law_told_right, fa, _, F_law, PySem.W.mg_of X G a_law, b_law, _, PySem.W.mg_of X G n_HOLES, _, PySem.W.mg_of X G n_LOOKERS, _, PySem.W.mg_of X G n_DAYS, PySem.W.mg_none_of X G z_all, PySem.W.mg_none_of X G z_any, PySem.W.mg_none_of X G z_bool, PySem.W.mg_none_of X G z_int, PySem.W.mg_none_of X G z_isinstance, PySem.W.mg_none_of X G z_len, PySem.W.mg_none_of X G z_list, PySem.W.mg_none_of X G z_max, PySem.W.mg_none_of X G z_min, PySem.W.mg_none_of X G z_range, PySem.W.mg_none_of X G z_set, PySem.W.mg_none_of X G z_sorted, PySem.W.mg_none_of X G z_tuple, PySem.W.mg_none_of X G z_zip⟩)⟩
theorem sp_start (K : PySem.W.Frag) (H : Hp) (a : Addr) (ns : List Int) (hl : ns.length ≤ 63) (O : Only H) (h : SqL K H a (ns.map V.int)) : spF0 K EW0 false fLaw [.ref a] H (fun v _ => v = .bl true) fun _ _ _ => False := by
  refine ⟨fun _ => False, [.scr ns], fun d => d = .bl true, fun _ => False, fun _ z => z.elim, ?_, ⟨ns, rfl, rfl⟩, fun d v H' e _ r => ?_, fun _ _ z => z.elim⟩
  · refine ⟨_, _, rfl, ⟨a, rfl, ?_⟩, rfl⟩
    rcases h with h | h
    · left
      refine ⟨id, ?_⟩
      rcases h with h | ⟨o, h⟩
      · rcases O a with q | ⟨o, xs, q⟩
        · rw [q] at h; cases h
        · rw [q] at h; cases h
      · exact ⟨o, h⟩
    · exact .inr h
  · subst e
    exact r
end K02
open PySem PySem.W PyProof.Rows
set_option maxHeartbeats 0 in
theorem PySem.Challenge.cw_foxholes_k02_whole_the_fewest_days_holds : PySem.Challenge.rw_foxholes_k02_whole_the_fewest_days.Holds := by
  w_on; o_law; k_head; (case hw => w_witness2)
  k_fill
  refine L2.walk_ofK (l := PySem.Challenge.rw_foxholes_k02_whole_the_fewest_days) (n := 63) (k := 8) (x := "script") (CX := L2.CX0) (sp := fun K => FX.spF0 K FX.EW0 false K02.fLaw) rfl (by decide) rfl ⟨rfl, by decide, by decide⟩ (fun w h Y => PySem.W.kIn_of Y) ?F K02.sp_start (fun _ _ _ _ h => h)
  case F =>
    intro w mg fa h KX G hmg
    refine' K02.all_mk KX G hmg ?a_is_from ?l_is_from ?c_is_from ?k_is_from ?a_is_passage ?l_is_passage ?c_is_passage ?k_is_passage ?a_is_warren ?l_is_warren ?c_is_warren ?k_is_warren ?a_good_lot ?l_good_lot ?c_good_lot ?k_good_lot ?a_look_warren ?l_look_warren ?c_look_warren ?k_look_warren ?a_look_lookers ?l_look_lookers ?c_look_lookers ?k_look_lookers ?a_look_lot ?l_look_lot ?c_look_lot ?k_look_lot ?a_next_to ?l_next_to ?c_next_to ?k_next_to ?a_later ?l_later ?c_later ?k_later ?a_lots_of ?l_lots_of ?c_lots_of ?k_lots_of ?a_best_lots ?l_best_lots ?c_best_lots ?k_best_lots ?a_days_table ?l_days_table ?c_days_table ?k_days_table ?a_is_plan ?l_is_plan ?c_is_plan ?k_is_plan ?a_look_all ?l_look_all ?c_look_all ?k_look_all ?a_surely ?l_surely ?c_surely ?k_surely ?a_fewest_days ?l_fewest_days ?c_fewest_days ?k_fewest_days ?a_plan ?l_plan ?c_plan ?k_plan ?a__law_bag ?l__law_bag ?c__law_bag ?k__law_bag ?a__law_take ?l__law_take ?c__law_take ?k__law_take ?a__law_of ?l__law_of ?c__law_of ?k__law_of ?a__law_warren ?l__law_warren ?c__law_warren ?k__law_warren ?a__law_near ?l__law_near ?c__law_near ?k__law_near ?a__law_later ?l__law_later ?c__law_later ?k__law_later ?a__law_lots ?l__law_lots ?c__law_lots ?k__law_lots ?a__law_days ?l__law_days ?c__law_days ?k__law_days ?a__law_met ?l__law_met ?c__law_met ?k__law_met ?a__law_told_right ?l__law_told_right ?c__law_told_right ?k__law_told_right ?a_law ?l_law ?c_law ?k_law ?n_HOLES ?n_LOOKERS ?n_DAYS ?z_all ?z_any ?z_bool ?z_int ?z_isinstance ?z_len ?z_list ?z_max ?z_min ?z_range ?z_set ?z_sorted ?z_tuple ?z_zip
    (case a_is_from => k_is)
    (case l_is_from => k_is)
    (case c_is_from => k_is)
    (case k_is_from => k_is)
    (case a_is_passage => k_is)
    (case l_is_passage => k_is)
    (case c_is_passage => k_is)
    (case k_is_passage => k_is)
    (case a_is_warren => k_is)
    (case l_is_warren => k_is)
    (case c_is_warren => k_is)
    (case k_is_warren => k_is)
    (case a_good_lot => k_is)
    (case l_good_lot => k_is)
    (case c_good_lot => k_is)
    (case k_good_lot => k_is)
    (case a_look_warren => k_is)
    (case l_look_warren => k_is)
    (case c_look_warren => k_is)
    (case k_look_warren => k_is)
    (case a_look_lookers => k_is)
    (case l_look_lookers => k_is)
    (case c_look_lookers => k_is)
    (case k_look_lookers => k_is)
    (case a_look_lot => k_is)
    (case l_look_lot => k_is)
    (case c_look_lot => k_is)
    (case k_look_lot => k_is)
    (case a_next_to => k_is)
    (case l_next_to => k_is)
    (case c_next_to => k_is)
    (case k_next_to => k_is)
    (case a_later => k_is)
    (case l_later => k_is)
    (case c_later => k_is)
    (case k_later => k_is)
    (case a_lots_of => k_is)
    (case l_lots_of => k_is)
    (case c_lots_of => k_is)
    (case k_lots_of => k_is)
    (case a_best_lots => k_is)
    (case l_best_lots => k_is)
    (case c_best_lots => k_is)
    (case k_best_lots => k_is)
    (case a_days_table => k_is)
    (case l_days_table => k_is)
    (case c_days_table => k_is)
    (case k_days_table => k_is)
    (case a_is_plan => k_is)
    (case l_is_plan => k_is)
    (case c_is_plan => k_is)
    (case k_is_plan => k_is)
    (case a_look_all => k_is)
    (case l_look_all => k_is)
    (case c_look_all => k_is)
    (case k_look_all => k_is)
    (case a_surely => k_is)
    (case l_surely => k_is)
    (case c_surely => k_is)
    (case k_surely => k_is)
    (case a_fewest_days => k_is)
    (case l_fewest_days => k_is)
    (case c_fewest_days => k_is)
    (case k_fewest_days => k_is)
    (case a_plan => k_is)
    (case l_plan => k_is)
    (case c_plan => k_is)
    (case k_plan => k_is)
    (case a__law_bag => k_is)
    (case l__law_bag => k_is)
    (case c__law_bag => k_is)
    (case k__law_bag => k_is)
    (case a__law_take => k_is)
    (case l__law_take => k_is)
    (case c__law_take => k_is)
    (case k__law_take => k_is)
    (case a__law_of => k_is)
    (case l__law_of => k_is)
    (case c__law_of => k_is)
    (case k__law_of => k_is)
    (case a__law_warren => k_is)
    (case l__law_warren => k_is)
    (case c__law_warren => k_is)
    (case k__law_warren => k_is)
    (case a__law_near => k_is)
    (case l__law_near => k_is)
    (case c__law_near => k_is)
    (case k__law_near => k_is)
    (case a__law_later => k_is)
    (case l__law_later => k_is)
    (case c__law_later => k_is)
    (case k__law_later => k_is)
    (case a__law_lots => k_is)
    (case l__law_lots => k_is)
    (case c__law_lots => k_is)
    (case k__law_lots => k_is)
    (case a__law_days => k_is)
    (case l__law_days => k_is)
    (case c__law_days => k_is)
    (case k__law_days => k_is)
    (case a__law_met => k_is)
    (case l__law_met => k_is)
    (case c__law_met => k_is)
    (case k__law_met => k_is)
    (case a__law_told_right => k_is)
    (case l__law_told_right => k_is)
    (case c__law_told_right => k_is)
    (case k__law_told_right => k_is)
    (case a_law => k_is)
    (case l_law => k_is)
    (case c_law => k_is)
    (case k_law => k_is)
    (case n_HOLES => k_is)
    (case n_LOOKERS => k_is)
    (case n_DAYS => k_is)
    (case z_all => k_is)
    (case z_any => k_is)
    (case z_bool => k_is)
    (case z_int => k_is)
    (case z_isinstance => k_is)
    (case z_len => k_is)
    (case z_list => k_is)
    (case z_max => k_is)
    (case z_min => k_is)
    (case z_range => k_is)
    (case z_set => k_is)
    (case z_sorted => k_is)
    (case z_tuple => k_is)
    (case z_zip => k_is)
