import PyProof.Rows.All
import Wide.All
import OpenK.AllK
import Wide.FinOn
import HandS.ForMost
import HandS.Style
import HandS.Conv
import HandS.Zip
import HandS.TupAny
import HandS.Deep
import HandS.RevTup
import HandS.More
import HandS.IsInst
import HandS.TupLen
import HandS.Sort
import KE.SortData
import KE.KDictSum
import HandS.TupSets
import HandS.DictTup
import KE.DataMinMax
import KE.KDictDisplayH
import KE.KRevSl
import PyProof.WalksMore
import PyProof.TupleIter
import HandS.Exc
import HandS.ExcOwn
import HandS.ExcIs
import HandS.WordsExc
import HandS.Hot
import HandS.HotCalls
import PyProof.ZipIter
import HandS.ExcCtx
import HandS.Text
import HandS.TupMul
import HandS.WordsDict
import PySem.Challenge.RW_foxholes_k01_warrens_lots_and_days_known
set_option Elab.async false
set_option linter.all false
set_option maxRecDepth 100000
/-! FxA: a functional layer over the hand layer: data D, what stands for it in a heap, environments, judgements -/
namespace FX
open PySem PySem.Spec PyProof.Rows L2

/-- plain data -/
inductive D where
  | non | bl (b : Bool) | int (i : Int) | str (x : Str)
  | tup (ds : List D) | lst (ds : List D)
  | dI (kvs : List (Int × D)) | dT (kvs : List (List Int × D))
  | scr (ns : List Int)
  | obj (n : Str) (fs : List D)

abbrev AS := Addr → Prop
/-- the keys of a dict with int keys, with tuple keys -/
def kI (n : Int) : Key := Sum.inl n
def kT (ns : List Int) : List Key := ns.map Sum.inl
/-- a list object of the written part -/
def KL (K : PySem.W.Frag) (a : Addr) (xs : List V) : Prop :=
  ∃ (o : Obj) (its : Array Value) (n : Nat), K.lookup a = some o ∧ o.cls = .type "list" ∧ o.dict = none ∧ o.data = .seq its n ∧ its.size ≤ sizeLine ∧ Vals xs its.toList

mutual
/-- v stands for d in H, and leans on no address of Av -/
def Rep (K : PySem.W.Frag) (Av : AS) (H : Hp) : D → V → Prop
  | .non, v => v = .non
  | .bl b, v => v = .bl b
  | .int i, v => v = .int i
  | .str x, v => v = .str x
  | .tup ds, v => ∃ a vs, v = .ref a ∧ ¬ Av a ∧ H a = some (.tup vs) ∧ Reps K Av H ds vs
  | .lst ds, v => ∃ a vs, v = .ref a ∧ ¬ Av a ∧ H a = some (.lst vs) ∧ Reps K Av H ds vs
  | .dI kvs, v => ∃ a ws, v = .ref a ∧ ¬ Av a ∧ Rd H a (.dK ws) ∧ RepI K Av H kvs ws
  | .dT kvs, v => ∃ a ws, v = .ref a ∧ ¬ Av a ∧ Rd H a (.dT ws) ∧ RepT K Av H kvs ws
  | .scr ns, v => ∃ a, v = .ref a ∧ ((¬ Av a ∧ ∃ o, H a = some (.frz o (.lst (ns.map V.int)))) ∨ KL K a (ns.map V.int))
  | .obj _ _, _ => False
def Reps (K : PySem.W.Frag) (Av : AS) (H : Hp) : List D → List V → Prop
  | [], vs => vs = []
  | d :: ds, vs => ∃ v r, vs = v :: r ∧ Rep K Av H d v ∧ Reps K Av H ds r
def RepI (K : PySem.W.Frag) (Av : AS) (H : Hp) : List (Int × D) → List (Key × V) → Prop
  | [], ws => ws = []
  | (k, d) :: ds, ws => ∃ v r, ws = (kI k, v) :: r ∧ Rep K Av H d v ∧ RepI K Av H ds r
def RepT (K : PySem.W.Frag) (Av : AS) (H : Hp) : List (List Int × D) → List (List Key × V) → Prop
  | [], ws => ws = []
  | (k, d) :: ds, ws => ∃ v r, ws = (kT k, v) :: r ∧ Rep K Av H d v ∧ RepT K Av H ds r
end

/-- the mutable thing at p holds d, v stands for it -/
def Cont (K : PySem.W.Frag) (Av : AS) (H : Hp) (p : Addr) (d : D) (v : V) : Prop :=
  match d with
  | .lst ds => v = .ref p ∧ ∃ vs, H p = some (.lst vs) ∧ Reps K Av H ds vs
  | .dI kvs => v = .ref p ∧ ∃ ws, H p = some (.dK ws) ∧ RepI K Av H kvs ws
  | .dT kvs => v = .ref p ∧ ∃ ws, H p = some (.dT ws) ∧ RepT K Av H kvs ws
  | _ => False

section
variable {K : PySem.W.Frag} {Av Bv : AS} {H H' : Hp}
mutual
theorem Rep.mono (hk : ∀ a o, H a = some o → ¬ Av a → H' a = some o) (ha : ∀ a, H a ≠ none → Bv a → Av a) : ∀ (d : D) (v : V), Rep K Av H d v → Rep K Bv H' d v
  | .non, _, h => h
  | .bl _, _, h => h
  | .int _, _, h => h
  | .str _, _, h => h
  | .tup ds, _, ⟨a, vs, e, n, h, r⟩ => ⟨a, vs, e, fun z => n (ha a (by rw [h]; simp) z), hk a _ h n, Reps.mono hk ha ds vs r⟩
  | .lst ds, _, ⟨a, vs, e, n, h, r⟩ => ⟨a, vs, e, fun z => n (ha a (by rw [h]; simp) z), hk a _ h n, Reps.mono hk ha ds vs r⟩
  | .dI ds, _, ⟨a, vs, e, n, h, r⟩ => by
    refine ⟨a, vs, e, fun z => n (ha a ?_ z), ?_, RepI.mono hk ha ds vs r⟩
    · rcases h with h | ⟨o, h⟩ <;> (rw [h]; simp)
    · rcases h with h | ⟨o, h⟩
      · exact .inl (hk a _ h n)
      · exact .inr ⟨o, hk a _ h n⟩
  | .dT ds, _, ⟨a, vs, e, n, h, r⟩ => by
    refine ⟨a, vs, e, fun z => n (ha a ?_ z), ?_, RepT.mono hk ha ds vs r⟩
    · rcases h with h | ⟨o, h⟩ <;> (rw [h]; simp)
    · rcases h with h | ⟨o, h⟩
      · exact .inl (hk a _ h n)
      · exact .inr ⟨o, hk a _ h n⟩
  | .scr _, _, ⟨a, e, h⟩ => ⟨a, e, h.elim (fun ⟨n, o, h⟩ => .inl ⟨fun z => n (ha a (by rw [h]; simp) z), o, hk a _ h n⟩) .inr⟩
  | .obj _ _, _, h => h
theorem Reps.mono (hk : ∀ a o, H a = some o → ¬ Av a → H' a = some o) (ha : ∀ a, H a ≠ none → Bv a → Av a) : ∀ (ds : List D) (vs : List V), Reps K Av H ds vs → Reps K Bv H' ds vs
  | [], _, h => h
  | d :: ds, _, ⟨v, r, e, h1, h2⟩ => ⟨v, r, e, Rep.mono hk ha d v h1, Reps.mono hk ha ds r h2⟩
theorem RepI.mono (hk : ∀ a o, H a = some o → ¬ Av a → H' a = some o) (ha : ∀ a, H a ≠ none → Bv a → Av a) : ∀ (ds : List (Int × D)) (vs : List (Key × V)), RepI K Av H ds vs → RepI K Bv H' ds vs
  | [], _, h => h
  | (_, d) :: ds, _, ⟨v, r, e, h1, h2⟩ => ⟨v, r, e, Rep.mono hk ha d v h1, RepI.mono hk ha ds r h2⟩
theorem RepT.mono (hk : ∀ a o, H a = some o → ¬ Av a → H' a = some o) (ha : ∀ a, H a ≠ none → Bv a → Av a) : ∀ (ds : List (List Int × D)) (vs : List (List Key × V)), RepT K Av H ds vs → RepT K Bv H' ds vs
  | [], _, h => h
  | (_, d) :: ds, _, ⟨v, r, e, h1, h2⟩ => ⟨v, r, e, Rep.mono hk ha d v h1, RepT.mono hk ha ds r h2⟩
end

theorem Reps.length : ∀ {ds : List D} {vs : List V}, Reps K Av H ds vs → vs.length = ds.length
  | [], _, h => by cases h; rfl
  | _ :: ds, _, ⟨_, _, e, _, h⟩ => by rw [e, List.length_cons, Reps.length h, List.length_cons]
theorem Reps.get : ∀ {ds : List D} {vs : List V} {i : Nat} {d : D}, Reps K Av H ds vs → ds[i]? = some d → ∃ v, vs[i]? = some v ∧ Rep K Av H d v
  | [], _, _, _, _, e => by simp at e
  | d :: ds, _, 0, _, ⟨v, r, e, h1, h2⟩, q => by
    simp at q; subst q; subst e; exact ⟨v, rfl, h1⟩
  | d :: ds, _, i + 1, _, ⟨v, r, e, h1, h2⟩, q => by
    subst e
    obtain ⟨v', e', h'⟩ := Reps.get (i := i) h2 (by simpa using q)
    exact ⟨v', by simpa using e', h'⟩
theorem Reps.getV : ∀ {ds : List D} {vs : List V} {i : Nat} {v : V}, Reps K Av H ds vs → vs[i]? = some v → ∃ d, ds[i]? = some d ∧ Rep K Av H d v := fun {ds vs i v} h e => by
  have hl : i < ds.length := by
    rw [← h.length]
    exact (List.getElem?_eq_some_iff.mp e).1
  obtain ⟨v', e', r⟩ := h.get (List.getElem?_eq_getElem hl)
  rw [e] at e'; cases e'
  exact ⟨_, List.getElem?_eq_getElem hl, r⟩
theorem Reps.append : ∀ {ds es : List D} {vs ws : List V}, Reps K Av H ds vs → Reps K Av H es ws → Reps K Av H (ds ++ es) (vs ++ ws)
  | [], _, _, _, h, q => by cases h; exact q
  | d :: ds, _, _, _, ⟨v, r, e, h1, h2⟩, q => by subst e; exact ⟨v, _, rfl, h1, Reps.append h2 q⟩
theorem Reps.one {d : D} {v : V} (h : Rep K Av H d v) : Reps K Av H [d] [v] := ⟨v, [], rfl, h, rfl⟩
theorem Reps.cons {d : D} {ds : List D} {v : V} {vs : List V} (h : Rep K Av H d v) (q : Reps K Av H ds vs) : Reps K Av H (d :: ds) (v :: vs) := ⟨v, vs, rfl, h, q⟩
theorem Reps.set : ∀ {ds : List D} {vs : List V} {i : Nat} {d : D} {v : V}, Reps K Av H ds vs → Rep K Av H d v → Reps K Av H (ds.set i d) (vs.set i v)
  | [], _, _, _, _, h, _ => by cases h; rfl
  | _ :: ds, _, 0, _, _, ⟨_, r, e, h1, h2⟩, q => by subst e; exact ⟨_, r, rfl, q, h2⟩
  | _ :: ds, _, i + 1, _, _, ⟨v, r, e, h1, h2⟩, q => by subst e; exact ⟨v, _, rfl, h1, Reps.set h2 q⟩
theorem Reps.take : ∀ {ds : List D} {vs : List V} (n : Nat), Reps K Av H ds vs → Reps K Av H (ds.take n) (vs.take n)
  | [], _, n, h => by cases h; simp; rfl
  | _ :: ds, _, 0, h => rfl
  | _ :: ds, _, n + 1, ⟨v, r, e, h1, h2⟩ => by subst e; exact ⟨v, _, rfl, h1, Reps.take n h2⟩
theorem Reps.drop : ∀ {ds : List D} {vs : List V} (n : Nat), Reps K Av H ds vs → Reps K Av H (ds.drop n) (vs.drop n)
  | [], _, n, h => by cases h; simp; rfl
  | _ :: ds, _, 0, h => h
  | _ :: ds, _, n + 1, ⟨v, r, e, h1, h2⟩ => by subst e; exact Reps.drop n h2
theorem Reps.reverse : ∀ {ds : List D} {vs : List V}, Reps K Av H ds vs → Reps K Av H ds.reverse vs.reverse
  | [], _, h => by cases h; rfl
  | d :: ds, _, ⟨v, r, e, h1, h2⟩ => by
    subst e
    rw [List.reverse_cons, List.reverse_cons]
    exact Reps.append (Reps.reverse h2) (Reps.one h1)
theorem Reps.eraseIdx : ∀ {ds : List D} {vs : List V} (n : Nat), Reps K Av H ds vs → Reps K Av H (ds.eraseIdx n) (vs.eraseIdx n)
  | [], _, n, h => by cases h; simp; rfl
  | _ :: ds, _, 0, ⟨v, r, e, h1, h2⟩ => by subst e; exact h2
  | _ :: ds, _, n + 1, ⟨v, r, e, h1, h2⟩ => by subst e; exact ⟨v, _, rfl, h1, Reps.eraseIdx n h2⟩
theorem Reps.ints : ∀ {ns : List Int} {vs : List V}, Reps K Av H (ns.map D.int) vs ↔ vs = ns.map V.int
  | [], _ => Iff.rfl
  | n :: ns, vs => by
    constructor
    · rintro ⟨v, r, e, h1, h2⟩
      have h1 : v = .int n := h1
      rw [e, h1, Reps.ints.mp h2]; rfl
    · rintro rfl
      exact ⟨_, _, rfl, rfl, Reps.ints.mpr rfl⟩
theorem RepI.length : ∀ {ds : List (Int × D)} {vs : List (Key × V)}, RepI K Av H ds vs → vs.length = ds.length
  | [], _, h => by cases h; rfl
  | _ :: ds, _, ⟨_, _, e, _, h⟩ => by rw [e, List.length_cons, RepI.length h, List.length_cons]
theorem RepT.length : ∀ {ds : List (List Int × D)} {vs : List (List Key × V)}, RepT K Av H ds vs → vs.length = ds.length
  | [], _, h => by cases h; rfl
  | _ :: ds, _, ⟨_, _, e, _, h⟩ => by rw [e, List.length_cons, RepT.length h, List.length_cons]

theorem Cont.mono {p : Addr} {d : D} {v : V} (h : Cont K Av H p d v) (hp : ∀ o, H p = some o → H' p = some o) (hk : ∀ a o, H a = some o → ¬ Av a → H' a = some o) (ha : ∀ a, H a ≠ none → Bv a → Av a) : Cont K Bv H' p d v := by
  cases d with
  | lst ds => obtain ⟨e, vs, h, r⟩ := h; exact ⟨e, vs, hp _ h, Reps.mono hk ha ds vs r⟩
  | dI ds => obtain ⟨e, vs, h, r⟩ := h; exact ⟨e, vs, hp _ h, RepI.mono hk ha ds vs r⟩
  | dT ds => obtain ⟨e, vs, h, r⟩ := h; exact ⟨e, vs, hp _ h, RepT.mono hk ha ds vs r⟩
  | non | bl _ | int _ | str _ | tup _ | scr _ | obj _ _ => exact h
theorem Cont.there {p : Addr} {d : D} {v : V} (h : Cont K Av H p d v) : H p ≠ none := by
  cases d with
  | lst ds => obtain ⟨e, vs, h, r⟩ := h; rw [h]; simp
  | dI ds => obtain ⟨e, vs, h, r⟩ := h; rw [h]; simp
  | dT ds => obtain ⟨e, vs, h, r⟩ := h; rw [h]; simp
  | non | bl _ | int _ | str _ | tup _ | scr _ | obj _ _ => exact h.elim
theorem Cont.mut {p : Addr} {d : D} {v : V} (h : Cont K Av H p d v) : Mut (H p) := by
  cases d with
  | lst ds => obtain ⟨e, vs, h, r⟩ := h; rw [h]; trivial
  | dI ds => obtain ⟨e, vs, h, r⟩ := h; rw [h]; trivial
  | dT ds => obtain ⟨e, vs, h, r⟩ := h; rw [h]; trivial
  | non | bl _ | int _ | str _ | tup _ | scr _ | obj _ _ => exact h.elim
/-- a mutable thing that nobody changes any more -/
theorem Cont.freeze {p : Addr} {d : D} {v : V} (h : Cont K Av H p d v) (ha : ∀ a, H a ≠ none → Bv a → Av a) (hn : ¬ Bv p) : Rep K Bv H d v := by
  cases d with
  | lst ds => obtain ⟨e, vs, h, r⟩ := h; exact ⟨p, vs, e, hn, h, Reps.mono (fun _ _ e _ => e) ha ds vs r⟩
  | dI ds => obtain ⟨e, vs, h, r⟩ := h; exact ⟨p, vs, e, hn, .inl h, RepI.mono (fun _ _ e _ => e) ha ds vs r⟩
  | dT ds => obtain ⟨e, vs, h, r⟩ := h; exact ⟨p, vs, e, hn, .inl h, RepT.mono (fun _ _ e _ => e) ha ds vs r⟩
  | non | bl _ | int _ | str _ | tup _ | scr _ | obj _ _ => exact h.elim
theorem Cont.val {p : Addr} {d : D} {v : V} (h : Cont K Av H p d v) : v = .ref p := by
  cases d with
  | lst ds => exact h.1
  | dI ds => exact h.1
  | dT ds => exact h.1
  | non | bl _ | int _ | str _ | tup _ | scr _ | obj _ _ => exact h.elim
end

mutual
/-- nothing in it can change -/
def imm : D → Bool
  | .tup ds => imms ds
  | .lst _ => false
  | .dI _ => false
  | .dT _ => false
  | .obj _ _ => false
  | _ => true
def imms : List D → Bool
  | [] => true
  | d :: ds => imm d && imms ds
end
mutual
theorem Rep.imm {K : PySem.W.Frag} {Av Bv : AS} {H : Hp} (ha : ∀ a, Bv a → Av a ∨ Mut (H a)) : ∀ (d : D) (v : V), FX.imm d = true → Rep K Av H d v → Rep K Bv H d v
  | .non, _, _, h => h
  | .bl _, _, _, h => h
  | .int _, _, _, h => h
  | .str _, _, _, h => h
  | .tup ds, _, i, ⟨a, vs, e, n, h, r⟩ => ⟨a, vs, e, fun z => (ha a z).elim n fun z => (by rw [h] at z; exact z), h, Reps.imm ha ds vs i r⟩
  | .scr _, _, _, ⟨a, e, h⟩ => ⟨a, e, h.elim (fun ⟨n, o, h⟩ => .inl ⟨fun z => (ha a z).elim n fun z => (by rw [h] at z; exact z), o, h⟩) .inr⟩
  | .obj _ _, _, _, h => h
  | .lst _, _, i, _ => Bool.noConfusion i
  | .dI _, _, i, _ => Bool.noConfusion i
  | .dT _, _, i, _ => Bool.noConfusion i
theorem Reps.imm {K : PySem.W.Frag} {Av Bv : AS} {H : Hp} (ha : ∀ a, Bv a → Av a ∨ Mut (H a)) : ∀ (ds : List D) (vs : List V), FX.imms ds = true → Reps K Av H ds vs → Reps K Bv H ds vs
  | [], _, _, h => h
  | d :: ds, _, i, ⟨v, r, e, h1, h2⟩ => by
    have i' : FX.imm d = true ∧ FX.imms ds = true := by
      have i : (FX.imm d && FX.imms ds) = true := i
      simpa using i
    exact ⟨v, r, e, Rep.imm ha d v i'.1 h1, Reps.imm ha ds r i'.2 h2⟩
end
/-! ### environments -/
/-- a slot: nothing known; plain data; a mutable thing of this def's own; a mutable thing handed in -/
inductive Sl where
  | no | frz (d : D) | own (d : D) | par (d : D)
abbrev Env := List Sl
def Sl.mine : Sl → Bool
  | .own _ => true
  | .par _ => true
  | _ => false
/-- what stays through a body: addresses that are not ours to touch; addresses that stood at the entry; the handed-in things -/
structure Ctx where
  G : AS
  B : AS
  P : Nat → V
def Ctx.add (C : Ctx) (p : Addr) : Ctx := { C with G := fun a => C.G a ∨ a = p }
def SlOk (K : PySem.W.Frag) (C : Ctx) (M : AS) (σ : L2.St) (H : Hp) (adr : Nat → Addr) (i : Nat) : Sl → Prop
  | .no => True
  | .frz d => ∃ v, σ[i]? = some (some v) ∧ Rep K (fun a => C.G a ∨ M a) H d v
  | .own d => ∃ v, σ[i]? = some (some v) ∧ M (adr i) ∧ ¬ C.B (adr i) ∧ Cont K (fun a => C.G a ∨ M a) H (adr i) d v
  | .par d => σ[i]? = some (some (C.P i)) ∧ M (adr i) ∧ Cont K (fun a => C.G a ∨ M a) H (adr i) d (C.P i)
structure Rel (K : PySem.W.Frag) (C : Ctx) (M : AS) (env : Env) (σ : L2.St) (H : Hp) : Prop where
  gm : ∀ a, C.G a → ¬ M a
  gt : ∀ a, C.G a → Mut (H a)
  mm : ∀ a, M a → Mut (H a)
  bh : ∀ a, C.B a → H a ≠ none
  len : env.length = σ.length
  sl : ∃ adr : Nat → Addr, (∀ i j s t, env[i]? = some s → env[j]? = some t → s.mine = true → t.mine = true → adr i = adr j → i = j) ∧ ∀ i s, env[i]? = some s → SlOk K C M σ H adr i s

theorem Rel.mh {K : PySem.W.Frag} {C : Ctx} {M : AS} {env : Env} {σ : L2.St} {H : Hp} (R : Rel K C M env σ H) (a : Addr) (m : M a) : H a ≠ none := fun z => by
  have := R.mm a m
  rw [z] at this
  exact this
theorem Rel.gh {K : PySem.W.Frag} {C : Ctx} {M : AS} {env : Env} {σ : L2.St} {H : Hp} (R : Rel K C M env σ H) (a : Addr) (m : C.G a) : H a ≠ none := fun z => by
  have := R.gt a m
  rw [z] at this
  exact this
theorem mut_same {H H' : Hp} {a : Addr} (k : ∀ o, H a = some o → H' a = some o) (m : Mut (H a)) : Mut (H' a) := by
  cases q : H a with
  | none => rw [q] at m; exact m.elim
  | some o => rw [q] at m; rw [k o q]; exact m
/-- all that is tracked and not ours stays -/
structure Keep (M : AS) (H H' : Hp) : Prop where
  kp : ∀ a o, H a = some o → ¬ M a → H' a = some o
  th : ∀ a, H a ≠ none → H' a ≠ none
def Grow (M : AS) (H : Hp) (M' : AS) : Prop := ∀ a, M' a → M a ∨ H a = none
theorem Keep.refl (M : AS) (H : Hp) : Keep M H H := ⟨fun _ _ e _ => e, fun _ e => e⟩
theorem Grow.refl (M : AS) (H : Hp) : Grow M H M := fun _ h => .inl h
theorem Keep.trans {M M1 : AS} {H H1 H2 : Hp} (a : Keep M H H1) (g : Grow M H M1) (b : Keep M1 H1 H2) : Keep M H H2 :=
  ⟨fun c o e n => b.kp c o (a.kp c o e n) fun z => (g c z).elim n fun q => (by rw [q] at e; cases e), fun c e => b.th c (a.th c e)⟩
theorem Grow.trans {M M1 M2 : AS} {H H1 : Hp} (k : Keep M H H1) (a : Grow M H M1) (b : Grow M1 H1 M2) : Grow M H M2 := fun c z => by
  rcases b c z with q | q
  · exact a c q
  · right
    cases e : H c with
    | none => rfl
    | some o => exact absurd q (k.th c (by rw [e]; simp))
theorem Keep.same {M : AS} {H H' : Hp} (s : Same H H') : Keep M H H' := ⟨fun a o e _ => s a o e, fun a e => by
  cases q : H a with
  | none => exact absurd q e
  | some o => rw [s a o q]; simp⟩
theorem Keep.rep {K : PySem.W.Frag} {G M M' : AS} {H H' : Hp} (k : Keep M H H') (g : Grow M H M') {d : D} {v : V} (r : Rep K (fun a => G a ∨ M a) H d v) : Rep K (fun a => G a ∨ M' a) H' d v :=
  Rep.mono (fun a o e n => k.kp a o e fun z => n (.inr z)) (fun a hn z => z.elim .inl fun z => (g a z).elim .inr fun q => absurd q hn) d v r
theorem Keep.reps {K : PySem.W.Frag} {G M M' : AS} {H H' : Hp} (k : Keep M H H') (g : Grow M H M') {d : List D} {v : List V} (r : Reps K (fun a => G a ∨ M a) H d v) : Reps K (fun a => G a ∨ M' a) H' d v :=
  Reps.mono (fun a o e n => k.kp a o e fun z => n (.inr z)) (fun a hn z => z.elim .inl fun z => (g a z).elim .inr fun q => absurd q hn) d v r

/-- the heap grew, nothing of ours was touched -/
theorem Rel.same {K : PySem.W.Frag} {C : Ctx} {M : AS} {env : Env} {σ : L2.St} {H H' : Hp} (R : Rel K C M env σ H) (s : Same H H') : Rel K C M env σ H' := by
  have th : ∀ a, H a ≠ none → H' a ≠ none := (Keep.same (M := M) s).th
  obtain ⟨adr, ha, hs⟩ := R.sl
  refine ⟨R.gm, fun a g => mut_same (s a) (R.gt a g), fun a g => mut_same (s a) (R.mm a g), fun a g => th a (R.bh a g), R.len, adr, ha, fun i sl e => ?_⟩
  have q := hs i sl e
  cases sl with
  | no => exact True.intro
  | frz d => obtain ⟨v, h1, h2⟩ := q; exact ⟨v, h1, Rep.mono (fun a o e _ => s a o e) (fun _ _ z => z) d v h2⟩
  | own d => obtain ⟨v, h1, h2, h3, h4⟩ := q; exact ⟨v, h1, h2, h3, h4.mono (fun o => s _ o) (fun a o e _ => s a o e) fun _ _ z => z⟩
  | par d => obtain ⟨h1, h2, h4⟩ := q; exact ⟨h1, h2, h4.mono (fun o => s _ o) (fun a o e _ => s a o e) fun _ _ z => z⟩
theorem same_new {H : Hp} {p : Addr} {o : HO} (h : H p = none) : Same H (upd H p o) := fun b x e => by
  rw [upd_ne (ne_of_none e h)]
  exact e
/-- a new thing at p, not ours yet -/
theorem Rel.add {K : PySem.W.Frag} {C : Ctx} {M : AS} {env : Env} {σ : L2.St} {H H' : Hp} {p : Addr} (R : Rel K C M env σ H) (s : Same H H') (hp : H p = none) (hp' : Mut (H' p)) : Rel K (C.add p) M env σ H' := by
  have R' := R.same s
  obtain ⟨adr, ha, hs⟩ := R.sl
  have np : ∀ a, H a ≠ none → a ≠ p := fun a h e => h (e ▸ hp)
  refine ⟨fun a g z => ?_, fun a g => ?_, R'.mm, R'.bh, R.len, adr, ha, fun i sl e => ?_⟩
  · rcases g with g | g
    · exact R.gm a g z
    · exact np a (R.mh a z) g
  · rcases g with g | g
    · exact R'.gt a g
    · rw [g]; exact hp'
  have q := hs i sl e
  have av : ∀ a, H a ≠ none → ((C.add p).G a ∨ M a) → (C.G a ∨ M a) := fun a hn z => z.elim (fun z => z.elim .inl fun z => absurd z (np a hn)) .inr
  cases sl with
  | no => exact True.intro
  | frz d => obtain ⟨v, h1, h2⟩ := q; exact ⟨v, h1, Rep.mono (fun a o e _ => s a o e) av d v h2⟩
  | own d => obtain ⟨v, h1, h2, h3, h4⟩ := q; exact ⟨v, h1, h2, h3, h4.mono (fun o => s _ o) (fun a o e _ => s a o e) av⟩
  | par d => obtain ⟨h1, h2, h4⟩ := q; exact ⟨h1, h2, h4.mono (fun o => s _ o) (fun a o e _ => s a o e) av⟩
/-- .. given up again -/
theorem Rel.drop {K : PySem.W.Frag} {C : Ctx} {M : AS} {env : Env} {σ : L2.St} {H : Hp} {p : Addr} (R : Rel K (C.add p) M env σ H) : Rel K C M env σ H := by
  obtain ⟨adr, ha, hs⟩ := R.sl
  refine ⟨fun a g => R.gm a (.inl g), fun a g => R.gt a (.inl g), R.mm, R.bh, R.len, adr, ha, fun i sl e => ?_⟩
  have q := hs i sl e
  have av : ∀ a, H a ≠ none → (C.G a ∨ M a) → ((C.add p).G a ∨ M a) := fun a hn z => z.elim (fun z => .inl (.inl z)) .inr
  cases sl with
  | no => exact True.intro
  | frz d => obtain ⟨v, h1, h2⟩ := q; exact ⟨v, h1, Rep.mono (fun a o e _ => e) av d v h2⟩
  | own d => obtain ⟨v, h1, h2, h3, h4⟩ := q; exact ⟨v, h1, h2, h3, h4.mono (fun o e => e) (fun a o e _ => e) av⟩
  | par d => obtain ⟨h1, h2, h4⟩ := q; exact ⟨h1, h2, h4.mono (fun o e => e) (fun a o e _ => e) av⟩

/-! ### readings over environments -/
/-- an exception: its class's name, its number -/
abbrev Ex := Str × Option Int
abbrev EK := D → Env → Prop
abbrev XW := Ex → Env → Prop
abbrev DE := Env → EK → XW → Prop
structure DK where
  nx : Env → Prop
  rt : D → Env → Prop
  ex : Ex → Env → Prop
  bk : Env → Prop := fun _ => False
  ct : Env → Prop := fun _ => False
abbrev DS := DK → Env → Prop
abbrev HW := Ex → Hp → Prop

/-- an expression's value is plain data -/
def up (K : PySem.W.Frag) (W : HW) (t : DE) : TE := fun σ H Q => ∃ (C : Ctx) (M : AS) (env : Env) (k : EK) (x : XW), Rel K C M env σ H ∧ t env k x ∧
  (∀ d env' v H' M', k d env' → Rel K C M' env' σ H' → Keep M H H' → Grow M H M' → Rep K (fun a => C.G a ∨ M' a) H' d v → Q v H') ∧
  (∀ e env' H' M', x e env' → Rel K C M' env' σ H' → Keep M H H' → Grow M H M' → W e H')
/-- an expression's value is a new mutable thing -/
def upF (K : PySem.W.Frag) (W : HW) (t : DE) : TE := fun σ H Q => ∃ (C : Ctx) (M : AS) (env : Env) (k : EK) (x : XW), Rel K C M env σ H ∧ t env k x ∧
  (∀ d env' p v H' M', k d env' → Rel K (C.add p) M' env' σ H' → Keep M H H' → Grow M H M' → H p = none → Cont K (fun a => (C.add p).G a ∨ M' a) H' p d v → Q v H') ∧
  (∀ e env' H' M', x e env' → Rel K C M' env' σ H' → Keep M H H' → Grow M H M' → W e H')
abbrev DT := Env → (Bool → Env → Prop) → XW → Prop
def upT (K : PySem.W.Frag) (W : HW) (t : DT) : TT := fun σ H Q => ∃ (C : Ctx) (M : AS) (env : Env) (k : Bool → Env → Prop) (x : XW), Rel K C M env σ H ∧ t env k x ∧
  (∀ d env' H' M', k d env' → Rel K C M' env' σ H' → Keep M H H' → Grow M H M' → Q d H') ∧
  (∀ e env' H' M', x e env' → Rel K C M' env' σ H' → Keep M H H' → Grow M H M' → W e H')
abbrev DA := Env → (List D → Env → Prop) → XW → Prop
def upA (K : PySem.W.Frag) (W : HW) (t : DA) : TA := fun σ H Q => ∃ (C : Ctx) (M : AS) (env : Env) (k : List D → Env → Prop) (x : XW), Rel K C M env σ H ∧ t env k x ∧
  (∀ ds env' vs H' M', k ds env' → Rel K C M' env' σ H' → Keep M H H' → Grow M H M' → Reps K (fun a => C.G a ∨ M' a) H' ds vs → Q vs H') ∧
  (∀ e env' H' M', x e env' → Rel K C M' env' σ H' → Keep M H H' → Grow M H M' → W e H')
/-- a statement; fr: what is returned is a new mutable thing -/
def upS (K : PySem.W.Frag) (W : HW) (fr : Bool) (t : DS) : TS := fun S σ H => ∃ (C : Ctx) (M : AS) (env : Env) (k : DK), Rel K C M env σ H ∧ t k env ∧
  (∀ env' σ' H' M', k.nx env' → Rel K C M' env' σ' H' → Keep M H H' → Grow M H M' → S.nx σ' H') ∧
  (∀ d env' v σ' H' M', k.rt d env' → Rel K C M' env' σ' H' → Keep M H H' → Grow M H M' →
    (if fr = true then ∃ p, ¬ C.B p ∧ ¬ C.G p ∧ ¬ M' p ∧ Cont K (fun a => (C.G a ∨ M' a) ∨ a = p) H' p d v else Rep K (fun a => C.G a ∨ M' a) H' d v) → S.rt v H') ∧
  (∀ e env' σ' H' M', k.ex e env' → Rel K C M' env' σ' H' → Keep M H H' → Grow M H M' → W e H') ∧
  (∀ env' σ' H' M', k.bk env' → Rel K C M' env' σ' H' → Keep M H H' → Grow M H M' → S.bk σ' H') ∧
  (∀ env' σ' H' M', k.ct env' → Rel K C M' env' σ' H' → Keep M H H' → Grow M H M' → S.ct σ' H')

theorem pe_conv {X : Cx} {e : Expr} {t t' : TE} (h : PE X e t) (c : ∀ σ H Q, t' σ H Q → t σ H Q) : PE X e t' := ⟨fun pins s σ H Q I q => h.run pins s σ H Q I (c σ H Q q)⟩
theorem pt_conv {X : Cx} {e : Expr} {t t' : TT} (h : PT X e t) (c : ∀ σ H Q, t' σ H Q → t σ H Q) : PT X e t' := ⟨fun pins s σ H Q I q => h.run pins s σ H Q I (c σ H Q q)⟩
theorem pa_conv {X : Cx} {e : List Expr} {t t' : TA} (h : PA X e t) (c : ∀ σ H Q, t' σ H Q → t σ H Q) : PA X e t' := ⟨fun pos pins s σ H Q I q => h.run pos pins s σ H Q I (c σ H Q q)⟩
theorem ps_conv {X : Cx} {e : Stmt} {t t' : TS} (h : PS X e t) (c : ∀ D σ H, t' D σ H → t D σ H) : PS X e t' := ⟨fun pins s σ H D I q => h.run pins s σ H D I (c D σ H q)⟩
theorem pss_conv {X : Cx} {e : List Stmt} {t t' : TS} (h : PSs X e t) (c : ∀ D σ H, t' D σ H → t D σ H) : PSs X e t' := ⟨fun pins s σ H D I q => h.run pins s σ H D I (c D σ H q)⟩
end FX

set_option Elab.async false
set_option linter.all false
set_option maxRecDepth 100000
set_option maxHeartbeats 1000000
/-! FxB: the readings of expressions over environments, and that they hold -/
namespace FX
open PySem PySem.Spec PyProof.Rows L2

/-! ### readings -/
def dVar (i : Nat) : DE := fun env k _ => ∃ d, env[i]? = some (.frz d) ∧ k d env
def dC (d : D) : DE := fun env k _ => k d env
def dOp (f : D → D → Option D) (ta tb : DE) : DE := fun env k x => ta env (fun a e1 => tb e1 (fun b e2 => ∃ d, f a b = some d ∧ k d e2) x) x
def dUn (f : D → Option D) (ta : DE) : DE := fun env k x => ta env (fun a e1 => ∃ d, f a = some d ∧ k d e1) x
def daNil : DA := fun env k _ => k [] env
def daCons (t : DE) (ts : DA) : DA := fun env k x => t env (fun d e1 => ts e1 (fun ds e2 => k (d :: ds) e2) x) x
def dTup (t : DA) : DE := fun env k x => t env (fun ds e => ds.length ≤ 16777216 ∧ k (.tup ds) e) x
def dLst (t : DA) : DE := fun env k x => t env (fun ds e => ds.length ≤ 16777216 ∧ k (.lst ds) e) x
def dCall (f : List D → Option D) (t : DA) : DE := fun env k x => t env (fun ds e => ∃ d, f ds = some d ∧ k d e) x
def dtB (t : DE) : DT := fun env k x => t env (fun d e => ∃ b, d = .bl b ∧ k b e) x
def truD : D → Option Bool
  | .non => some false
  | .bl b => some b
  | .int i => some (i != 0)
  | .tup ds => some (!ds.isEmpty)
  | .lst ds => some (!ds.isEmpty)
  | _ => none
def dtTru (t : DE) : DT := fun env k x => t env (fun d e => ∃ b, truD d = some b ∧ k b e) x
def dtNot (t : DT) : DT := fun env k x => t env (fun b e => k (!b) e) x
def dtAnd (t u : DT) : DT := fun env k x => t env (fun b e => if b = true then u e k x else k false e) x
def dtOr (t u : DT) : DT := fun env k x => t env (fun b e => if b = true then k true e else u e k x) x
def dAndV (t u : DE) : DE := fun env k x => t env (fun d e => ∃ b, d = .bl b ∧ if b = true then u e k x else k (.bl false) e) x
def dOrV (t u : DE) : DE := fun env k x => t env (fun d e => ∃ b, d = .bl b ∧ if b = true then k (.bl true) e else u e k x) x
def dNotV (t : DE) : DE := fun env k x => t env (fun d e => ∃ b, d = .bl b ∧ k (.bl (!b)) e) x
def dIf (c : DT) (t u : DE) : DE := fun env k x => c env (fun b e => if b = true then t e k x else u e k x) x
def dChain (f g : D → D → Option D) (ta tb tc : DE) : DE := fun env k x => ta env (fun a e1 => tb e1 (fun b e2 => ∃ z, f a b = some (.bl z) ∧
  if z = true then tc e2 (fun c e3 => ∃ d, g b c = some d ∧ k d e3) x else k (.bl false) e2) x) x

/-! ### a rule by values, over data -/
def RepQ (K : PySem.W.Frag) (Av : AS) (H : Hp) (d : D) (Q : VK) : Prop := ∀ v H', Same H H' → Rep K Av H' d v → Q v H'
def RepFQ (K : PySem.W.Frag) (Av : AS) (H : Hp) (d : D) (Q : VK) : Prop := ∀ p v H', Same H H' → H p = none → Cont K (fun a => Av a ∨ a = p) H' p d v → Q v H'
def AvT (Av : AS) (H : Hp) : Prop := ∀ c, Av c → Mut (H c)
theorem AvT.new {Av : AS} {H : Hp} (h : AvT Av H) {p : Addr} (hp : H p = none) : ¬ Av p := fun z => by
  have := h p z
  rw [hp] at this
  exact this
theorem AvT.tup {Av : AS} {H : Hp} (h : AvT Av H) {p : Addr} {xs : List V} (hp : H p = some (.tup xs)) : ¬ Av p := fun z => by
  have := h p z
  rw [hp] at this
  exact this
structure Bin (K : PySem.W.Frag) (r : R2) (f : D → D → Option D) : Prop where
  ok : ∀ {Av H a b d x y Q}, AvT Av H → Rep K Av H a x → Rep K Av H b y → f a b = some d → RepQ K Av H d Q → r x y H Q
structure BinF (K : PySem.W.Frag) (r : R2) (f : D → D → Option D) : Prop where
  ok : ∀ {Av H a b d x y Q}, AvT Av H → Rep K Av H a x → Rep K Av H b y → f a b = some d → RepFQ K Av H d Q → r x y H Q
structure Una (K : PySem.W.Frag) (r : V → Hp → VK → Prop) (f : D → Option D) : Prop where
  ok : ∀ {Av H a d x Q}, AvT Av H → Rep K Av H a x → f a = some d → RepQ K Av H d Q → r x H Q
structure Cal (K : PySem.W.Frag) (r : List V → Hp → VK → Prop) (f : List D → Option D) : Prop where
  ok : ∀ {Av H ds d xs Q}, AvT Av H → Reps K Av H ds xs → f ds = some d → RepQ K Av H d Q → r xs H Q
structure CalF (K : PySem.W.Frag) (r : List V → Hp → VK → Prop) (f : List D → Option D) : Prop where
  ok : ∀ {Av H ds d xs Q}, AvT Av H → Reps K Av H ds xs → f ds = some d → RepFQ K Av H d Q → r xs H Q

section
variable {K : PySem.W.Frag} {W : HW} {C : Ctx} {M : AS} {env : Env} {σ : L2.St} {H : Hp} {Q : VK}
theorem Rel.avt (R : Rel K C M env σ H) : AvT (fun a => C.G a ∨ M a) H := fun c h => h.elim (R.gt c) (R.mm c)
/-- the end of a pure rule -/
theorem Rel.fin {C : Ctx} {M M0 : AS} {H0 : Hp} {k : EK} {d : D} (R : Rel K C M env σ H) (kp : Keep M0 H0 H) (g : Grow M0 H0 M) (kd : k d env)
    (hk : ∀ d env' v H' M', k d env' → Rel K C M' env' σ H' → Keep M0 H0 H' → Grow M0 H0 M' → Rep K (fun a => C.G a ∨ M' a) H' d v → Q v H') : RepQ K (fun a => C.G a ∨ M a) H d Q :=
  fun v H' s r => hk d env v H' M kd (R.same s) (kp.trans g (.same s)) g r
theorem Rel.finF {C : Ctx} {M M0 : AS} {H0 : Hp} {k : EK} {d : D} (R : Rel K C M env σ H) (kp : Keep M0 H0 H) (g : Grow M0 H0 M) (kd : k d env)
    (hk : ∀ d env' p v H' M', k d env' → Rel K (C.add p) M' env' σ H' → Keep M0 H0 H' → Grow M0 H0 M' → H0 p = none → Cont K (fun a => (C.add p).G a ∨ M' a) H' p d v → Q v H') : RepFQ K (fun a => C.G a ∨ M a) H d Q :=
  fun p v H' s hp c => by
    have R' := R.add s hp c.mut
    refine hk d env p v H' M kd R' (kp.trans g (.same s)) g ?_ (c.mono (fun _ e => e) (fun _ _ e _ => e) fun a _ z => ?_)
    · cases e : H0 p with
      | none => rfl
      | some o => exact absurd hp (kp.th p (by rw [e]; simp))
    · rcases z with (z | z) | z
      · exact .inl (.inl z)
      · exact .inr z
      · exact .inl (.inr z)
/-- a new mutable thing is plain data for whoever does not change it -/
theorem up_of_upF {t : DE} {σ : L2.St} {H : Hp} {Q : VK} : up K W t σ H Q → upF K W t σ H Q := by
  rintro ⟨C, M, env, k, x, R, h, hk, hx⟩
  refine ⟨C, M, env, k, x, R, h, fun d env' p v H' M' kd R' kp g hp c => ?_, hx⟩
  refine hk d env' v H' M' kd R'.drop kp g (c.freeze (fun a _ z => z.elim (fun z => .inl (.inl z)) .inr) fun z => ?_)
  rcases z with z | z
  · exact R.gh p z hp
  · exact R'.gm p (.inr rfl) z
theorem de_F {X : Cx} {e : Expr} {t : DE} (h : PE X e (upF X.K W t)) : PE X e (up X.K W t) := pe_conv h fun _ _ _ => up_of_upF

theorem sim_op {r : R2} {f : D → D → Option D} {ta tb : DE} (B : Bin K r f) (h : up K W (dOp f ta tb) σ H Q) : tOp r (up K W ta) (up K W tb) σ H Q := by
  obtain ⟨C, M, env, k, x, R, h, hk, hx⟩ := h
  refine ⟨C, M, env, _, x, R, h, fun a e1 va H1 M1 h1 R1 k1 g1 r1 => ?_, hx⟩
  refine ⟨C, M1, e1, _, x, R1, h1, fun b e2 vb H2 M2 h2 R2 k2 g2 r2 => ?_, fun e env' H' M' xe R' k' g' => hx e env' H' M' xe R' (k1.trans g1 k') (Grow.trans k1 g1 g')⟩
  obtain ⟨d, hd, kd⟩ := h2
  exact B.ok R2.avt (k2.rep g2 r1) r2 hd (R2.fin (k1.trans g1 k2) (Grow.trans k1 g1 g2) kd hk)
theorem sim_opF {r : R2} {f : D → D → Option D} {ta tb : DE} (B : BinF K r f) (h : upF K W (dOp f ta tb) σ H Q) : tOp r (up K W ta) (up K W tb) σ H Q := by
  obtain ⟨C, M, env, k, x, R, h, hk, hx⟩ := h
  refine ⟨C, M, env, _, x, R, h, fun a e1 va H1 M1 h1 R1 k1 g1 r1 => ?_, hx⟩
  refine ⟨C, M1, e1, _, x, R1, h1, fun b e2 vb H2 M2 h2 R2 k2 g2 r2 => ?_, fun e env' H' M' xe R' k' g' => hx e env' H' M' xe R' (k1.trans g1 k') (Grow.trans k1 g1 g')⟩
  obtain ⟨d, hd, kd⟩ := h2
  exact B.ok R2.avt (k2.rep g2 r1) r2 hd (R2.finF (k1.trans g1 k2) (Grow.trans k1 g1 g2) kd hk)
theorem sim_un {r : V → Hp → VK → Prop} {f : D → Option D} {ta : DE} (B : Una K r f) (h : up K W (dUn f ta) σ H Q) : tUn r (up K W ta) σ H Q := by
  obtain ⟨C, M, env, k, x, R, h, hk, hx⟩ := h
  refine ⟨C, M, env, _, x, R, h, fun a e1 va H1 M1 h1 R1 k1 g1 r1 => ?_, hx⟩
  obtain ⟨d, hd, kd⟩ := h1
  exact B.ok R1.avt r1 hd (R1.fin k1 g1 kd hk)
theorem sim_call {r : List V → Hp → VK → Prop} {f : List D → Option D} {t : DA} (B : Cal K r f) (h : up K W (dCall f t) σ H Q) : tCB r (upA K W t) σ H Q := by
  obtain ⟨C, M, env, k, x, R, h, hk, hx⟩ := h
  refine ⟨C, M, env, _, x, R, h, fun ds e1 vs H1 M1 h1 R1 k1 g1 r1 => ?_, hx⟩
  obtain ⟨d, hd, kd⟩ := h1
  exact B.ok R1.avt r1 hd (R1.fin k1 g1 kd hk)
theorem sim_callF {r : List V → Hp → VK → Prop} {f : List D → Option D} {t : DA} (B : CalF K r f) (h : upF K W (dCall f t) σ H Q) : tCB r (upA K W t) σ H Q := by
  obtain ⟨C, M, env, k, x, R, h, hk, hx⟩ := h
  refine ⟨C, M, env, _, x, R, h, fun ds e1 vs H1 M1 h1 R1 k1 g1 r1 => ?_, hx⟩
  obtain ⟨d, hd, kd⟩ := h1
  exact B.ok R1.avt r1 hd (R1.finF k1 g1 kd hk)
end

/-! ### the judgements -/
section
variable {X : Cx} {W : HW} {a b c e : Expr} {es : List Expr} {pos : Pos} {ta tb tc : DE} {t : DA}
theorem de_var (i : Nat) {x : Str} (hN : X.N[i]? = some x := by rfl) (hv : Vis X.env.scope x := by first | exact Or.inl rfl | exact Or.inr (Or.inl rfl) | exact Or.inr (Or.inr rfl)) (hd : (x == ("__debug__" : Str)) = false := by decide)
    (hcd : (x == ("__classdict__" : Str)) = false := by decide) : PE X (.Name x pos) (up X.K W (dVar i)) := by
  refine pe_conv (pe_var hN hv hd hcd) fun σ H Q h => ?_
  obtain ⟨C, M, env, k, x, R, ⟨d, he, kd⟩, hk, hx⟩ := h
  obtain ⟨adr, _, hs⟩ := R.sl
  obtain ⟨v, h1, h2⟩ := hs i _ he
  exact ⟨v, h1, hk d env v H M kd R (.refl _ _) (.refl _ _) h2⟩
theorem up_const {K : PySem.W.Frag} {d : D} {v : V} (hr : ∀ Av H, Rep K Av H d v) : ∀ σ H Q, up K W (dC d) σ H Q → tC v σ H Q := fun σ H Q h => by
  obtain ⟨C, M, env, k, x, R, kd, hk, hx⟩ := h
  exact hk d env v H M kd R (.refl _ _) (.refl _ _) (hr _ _)
theorem de_int {i j} : PE X (.Constant (.int i) j pos) (up X.K W (dC (.int i))) := pe_conv pe_int (up_const fun _ _ => rfl)
theorem de_bl {b j} : PE X (.Constant (.bool b) j pos) (up X.K W (dC (.bl b))) := pe_conv pe_bl (up_const fun _ _ => rfl)
theorem de_non {j} : PE X (.Constant .none j pos) (up X.K W (dC .non)) := pe_conv pe_non (up_const fun _ _ => rfl)
theorem de_str {x j} : PE X (.Constant (.str x) j pos) (up X.K W (dC (.str x))) := pe_conv pe_str (up_const fun _ _ => rfl)
/-- a module's int constant -/
theorem de_globI {x : Str} {i : Int} {tk : Tok} (hg : Gl X x) (hm : X.mg x = some (.int i tk)) (hd : (x == ("__debug__" : Str)) = false := by decide) : PE X (.Name x pos) (up X.K W (dC (.int i))) :=
  pe_conv (pe_glob (v := .int i) hg hm ⟨_, rfl⟩ hd) (up_const fun _ _ => rfl)
theorem de_op {op : Operator} {r : R2} {f : D → D → Option D} (ho : OpR X (binaryOp op) r) (B : Bin X.K r f) (ha : PE X a (up X.K W ta)) (hb : PE X b (up X.K W tb)) : PE X (.BinOp a op b pos) (up X.K W (dOp f ta tb)) :=
  pe_conv (pe_op ho ha hb) fun _ _ _ => sim_op B
theorem de_opF {op : Operator} {r : R2} {f : D → D → Option D} (ho : OpR X (binaryOp op) r) (B : BinF X.K r f) (ha : PE X a (up X.K W ta)) (hb : PE X b (up X.K W tb)) : PE X (.BinOp a op b pos) (upF X.K W (dOp f ta tb)) :=
  pe_conv (pe_op ho ha hb) fun _ _ _ => sim_opF B
theorem de_cmp {op : CmpOp} {r : R2} {f : D → D → Option D} (ho : OpR X (compareOp op) r) (B : Bin X.K r f) (ha : PE X a (up X.K W ta)) (hb : PE X b (up X.K W tb)) (hm : behindInMarks op b = false) : PE X (.Compare a [op] [b] pos) (up X.K W (dOp f ta tb)) :=
  pe_conv (pe_cmpR ho ha hb hm) fun _ _ _ => sim_op B
theorem de_un {op : UnaryOp} {r : V → Hp → VK → Prop} {f : D → Option D} (ho : UnR X (unaryOp op) r) (B : Una X.K r f) (ha : PE X a (up X.K W ta)) : PE X (.UnaryOp op a pos) (up X.K W (dUn f ta)) :=
  pe_conv (pe_un ho ha) fun _ _ _ => sim_un B
theorem de_ix {r : R2} {f : D → D → Option D} (ho : IxR X r) (B : Bin X.K r f) (ha : PE X a (up X.K W ta)) (hb : PE X b (up X.K W tb)) (hs : PlainIx b) : PE X (.Subscript a b pos) (up X.K W (dOp f ta tb)) :=
  pe_conv (pe_ix ho ha hb hs) fun _ _ _ => sim_op B
theorem de_callB {id : String} {x : Str} {p : Pos} {r : List V → Hp → VK → Prop} {f : List D → Option D} (hc : CallR X (.builtin id) r) (B : Cal X.K r f) (hg : Gl X x) (hm : X.mg x = none) (hv : bootBuiltins x = some (.builtin id)) (ha : PA X (e :: es) (upA X.K W t)) (hn : x ≠ "__name__" := by decide) (hdb : (x == ("__debug__" : Str)) = false := by decide)
    (he : starEach (e :: es) X.env = (false, eval e X.env) :: starEach es X.env := by rfl) (hpl : (backTo pos (starEach es X.env)).any (·.1) = false := by rfl) : PE X (.Call (.Name x p) (e :: es) [] pos) (up X.K W (dCall f t)) :=
  pe_conv (pe_callB hc hg hm hv ha hn hdb he hpl) fun _ _ _ => sim_call B
theorem de_callBF {id : String} {x : Str} {p : Pos} {r : List V → Hp → VK → Prop} {f : List D → Option D} (hc : CallR X (.builtin id) r) (B : CalF X.K r f) (hg : Gl X x) (hm : X.mg x = none) (hv : bootBuiltins x = some (.builtin id)) (ha : PA X (e :: es) (upA X.K W t)) (hn : x ≠ "__name__" := by decide) (hdb : (x == ("__debug__" : Str)) = false := by decide)
    (he : starEach (e :: es) X.env = (false, eval e X.env) :: starEach es X.env := by rfl) (hpl : (backTo pos (starEach es X.env)).any (·.1) = false := by rfl) : PE X (.Call (.Name x p) (e :: es) [] pos) (upF X.K W (dCall f t)) :=
  pe_conv (pe_callB hc hg hm hv ha hn hdb he hpl) fun _ _ _ => sim_callF B
theorem de_callT {T : String} {x : Str} {p : Pos} {r : List V → Hp → VK → Prop} {f : List D → Option D} (hc : CallR X (.type T) r) (B : Cal X.K r f) (hg : Gl X x) (hm : X.mg x = none) (hv : bootBuiltins x = some (.type T)) (ha : PA X (e :: es) (upA X.K W t)) (hn : x ≠ "__name__" := by decide) (hdb : (x == ("__debug__" : Str)) = false := by decide)
    (he : starEach (e :: es) X.env = (false, eval e X.env) :: starEach es X.env := by rfl) (hpl : (backTo pos (starEach es X.env)).any (·.1) = false := by rfl) : PE X (.Call (.Name x p) (e :: es) [] pos) (up X.K W (dCall f t)) :=
  pe_conv (pe_callTy hc hg hm hv ha hn hdb he hpl) fun _ _ _ => sim_call B
theorem de_callTF {T : String} {x : Str} {p : Pos} {r : List V → Hp → VK → Prop} {f : List D → Option D} (hc : CallR X (.type T) r) (B : CalF X.K r f) (hg : Gl X x) (hm : X.mg x = none) (hv : bootBuiltins x = some (.type T)) (ha : PA X (e :: es) (upA X.K W t)) (hn : x ≠ "__name__" := by decide) (hdb : (x == ("__debug__" : Str)) = false := by decide)
    (he : starEach (e :: es) X.env = (false, eval e X.env) :: starEach es X.env := by rfl) (hpl : (backTo pos (starEach es X.env)).any (·.1) = false := by rfl) : PE X (.Call (.Name x p) (e :: es) [] pos) (upF X.K W (dCall f t)) :=
  pe_conv (pe_callTy hc hg hm hv ha hn hdb he hpl) fun _ _ _ => sim_callF B

/-! arguments, displays -/
theorem da_nil : PA X [] (upA X.K W daNil) := by
  refine pa_conv pa_nil fun σ H Q h => ?_
  obtain ⟨C, M, env, k, x, R, kd, hk, hx⟩ := h
  exact hk [] env [] H M kd R (.refl _ _) (.refl _ _) rfl
theorem da_cons (ha : PE X e (up X.K W ta)) (hr : PA X es (upA X.K W t)) (hs : starEach (e :: es) X.env = (false, eval e X.env) :: starEach es X.env := by rfl) : PA X (e :: es) (upA X.K W (daCons ta t)) := by
  refine pa_conv (pa_cons ha hr hs) fun σ H Q h => ?_
  obtain ⟨C, M, env, k, x, R, h, hk, hx⟩ := h
  refine ⟨C, M, env, _, x, R, h, fun a e1 va H1 M1 h1 R1 k1 g1 r1 => ?_, hx⟩
  refine ⟨C, M1, e1, _, x, R1, h1, fun ds e2 vs H2 M2 h2 R2 k2 g2 r2 => ?_, fun e env' H' M' xe R' k' g' => hx e env' H' M' xe R' (k1.trans g1 k') (Grow.trans k1 g1 g')⟩
  exact hk _ e2 _ H2 M2 h2 R2 (k1.trans g1 k2) (Grow.trans k1 g1 g2) (.cons (k2.rep g2 r1) r2)
theorem line_eq : (sizeLine : Nat) = 16777216 := sizeLine_eq
theorem de_tup {x1} (h : PA X es (upA X.K W t)) : PE X (.Tuple es x1 pos) (up X.K W (dTup t)) := by
  refine pe_conv (pe_tup h) fun σ H Q h => ?_
  obtain ⟨C, M, env, k, x, R, h, hk, hx⟩ := h
  refine ⟨C, M, env, _, x, R, h, fun ds e1 vs H1 M1 h1 R1 k1 g1 r1 => ?_, hx⟩
  obtain ⟨hl, kd⟩ := h1
  refine ⟨by rw [r1.length, line_eq]; exact hl, fun p hp => ?_⟩
  refine R1.fin k1 g1 kd hk (.ref p) _ (same_new hp) ⟨p, vs, rfl, R1.avt.new hp, upd_same, ?_⟩
  exact Reps.mono (fun a o e _ => same_new hp a o e) (fun _ _ z => z) ds vs r1
theorem de_lst (h : PA X es (upA X.K W t)) : PE X (.List es pos) (upF X.K W (dLst t)) := by
  refine pe_conv (pe_lst h) fun σ H Q h => ?_
  obtain ⟨C, M, env, k, x, R, h, hk, hx⟩ := h
  refine ⟨C, M, env, _, x, R, h, fun ds e1 vs H1 M1 h1 R1 k1 g1 r1 => ?_, hx⟩
  obtain ⟨hl, kd⟩ := h1
  refine ⟨by rw [r1.length, line_eq]; exact hl, fun p hp => ?_⟩
  refine R1.finF k1 g1 kd hk p (.ref p) _ (same_new hp) hp ⟨rfl, vs, upd_same, ?_⟩
  refine Reps.mono (fun a o e _ => same_new hp a o e) (fun a hn z => z.elim id fun z => ?_) ds vs r1
  exact absurd hp (z ▸ hn)

/-! tests -/
theorem dt_val (h : PE X e (up X.K W ta)) (he : ∀ whole, isTrue e X.env whole = (do let v ← whole; standAt e.pos; holding [v] (truthy v)) := by intro _; rfl) : PT X e (upT X.K W (dtB ta)) := by
  refine pt_conv (pt_val h he) fun σ H Q h => ?_
  obtain ⟨C, M, env, k, x, R, h, hk, hx⟩ := h
  refine ⟨C, M, env, _, x, R, h, fun a e1 va H1 M1 h1 R1 k1 g1 r1 => ?_, hx⟩
  obtain ⟨b, rfl, kd⟩ := h1
  have r1 : va = .bl b := r1
  exact ⟨b, r1, hk b e1 H1 M1 kd R1 k1 g1⟩
theorem dt_cmp {op : CmpOp} {r : R2} {f : D → D → Option D} (ho : OpR X (compareOp op) r) (B : Bin X.K r f) (ha : PE X a (up X.K W ta)) (hb : PE X b (up X.K W tb)) (hm : behindInMarks op b = false) : PT X (.Compare a [op] [b] pos) (upT X.K W (dtB (dOp f ta tb))) := by
  refine pt_conv (pt_cmpR ho ha hb hm) fun σ H Q h => ?_
  obtain ⟨C, M, env, k, x, R, h, hk, hx⟩ := h
  refine sim_op B ⟨C, M, env, _, x, R, h, fun a e1 va H1 M1 h1 R1 k1 g1 r1 => ?_, hx⟩
  obtain ⟨b, rfl, kd⟩ := h1
  have r1 : va = .bl b := r1
  exact ⟨b, r1, hk b e1 H1 M1 kd R1 k1 g1⟩
theorem tru_rep {K : PySem.W.Frag} {Av : AS} {H : Hp} : ∀ {d : D} {v : V} {b : Bool}, Rep K Av H d v → truD d = some b → TruV K v H b
  | .non, _, _, h, e => by cases h; cases e; rfl
  | .bl _, _, _, h, e => by cases h; cases e; rfl
  | .int _, _, _, h, e => by cases h; cases e; rfl
  | .tup ds, _, _, ⟨a, vs, h1, _, h2, r⟩, e => by
    subst h1
    refine .inr (.inl ⟨vs, SqT.of h2, ?_⟩)
    have e' : some (!ds.isEmpty) = some _ := e
    rw [← Option.some.inj e']
    have := r.length
    cases ds <;> cases vs <;> simp at this ⊢
  | .lst ds, _, _, ⟨a, vs, h1, _, h2, r⟩, e => by
    subst h1
    refine .inl ⟨vs, SqL.of h2, ?_⟩
    have e' : some (!ds.isEmpty) = some _ := e
    rw [← Option.some.inj e']
    have := r.length
    cases ds <;> cases vs <;> simp at this ⊢
  | .str _, _, _, _, e | .dI _, _, _, _, e | .dT _, _, _, _, e | .scr _, _, _, _, e | .obj _ _, _, _, _, e => by cases e
theorem dt_tru (h : PE X e (up X.K W ta)) (he : ∀ whole, isTrue e X.env whole = (do let v ← whole; standAt e.pos; holding [v] (truthy v)) := by intro _; rfl) : PT X e (upT X.K W (dtTru ta)) := by
  refine pt_conv (pt_truth h he) fun σ H Q h => ?_
  obtain ⟨C, M, env, k, x, R, h, hk, hx⟩ := h
  refine ⟨C, M, env, _, x, R, h, fun a e1 va H1 M1 h1 R1 k1 g1 r1 => ?_, hx⟩
  obtain ⟨b, hb, kd⟩ := h1
  exact ⟨b, tru_rep r1 hb, hk b e1 H1 M1 kd R1 k1 g1⟩
theorem dt_not {t : DT} (h : PT X e (upT X.K W t)) : PT X (.UnaryOp .Not e pos) (upT X.K W (dtNot t)) := by
  refine pt_conv (pt_not h) fun σ H Q h => ?_
  obtain ⟨C, M, env, k, x, R, h, hk, hx⟩ := h
  exact ⟨C, M, env, _, x, R, h, fun b e1 H1 M1 h1 R1 k1 g1 => hk (!b) e1 H1 M1 h1 R1 k1 g1, hx⟩
theorem pw_conv {e : Expr} {t t' : TT} (h : PW X e t) (c : ∀ σ H Q, t' σ H Q → t σ H Q) : PW X e t' := ⟨fun wh pins s σ H Q I q => h.run wh pins s σ H Q I (c σ H Q q)⟩
theorem dw_and1 {t : DT} (h : PT X a (upT X.K W t)) : PW X (.BoolOp .And [a] pos) (upT X.K W t) := pw_and1 h
theorem dw_or1 {t : DT} (h : PT X a (upT X.K W t)) : PW X (.BoolOp .Or [a] pos) (upT X.K W t) := pw_or1 h
theorem dw_and {t u : DT} {rest : List Expr} (h : PT X a (upT X.K W t)) (h2 : PW X (.BoolOp .And (b :: rest) pos) (upT X.K W u)) : PW X (.BoolOp .And (a :: b :: rest) pos) (upT X.K W (dtAnd t u)) := by
  refine pw_conv (pw_and h h2) fun σ H Q h => ?_
  obtain ⟨C, M, env, k, x, R, h, hk, hx⟩ := h
  refine ⟨C, M, env, _, x, R, h, fun b e1 H1 M1 h1 R1 k1 g1 => ?_, hx⟩
  cases b with
  | true =>
    rw [if_pos rfl] at h1 ⊢
    exact ⟨C, M1, e1, k, x, R1, h1, fun b e2 H2 M2 h2 R2 k2 g2 => hk b e2 H2 M2 h2 R2 (k1.trans g1 k2) (Grow.trans k1 g1 g2), fun e env' H' M' xe R' k' g' => hx e env' H' M' xe R' (k1.trans g1 k') (Grow.trans k1 g1 g')⟩
  | false =>
    rw [if_neg Bool.false_ne_true] at h1 ⊢
    exact hk false e1 H1 M1 h1 R1 k1 g1
theorem dw_or {t u : DT} {rest : List Expr} (h : PT X a (upT X.K W t)) (h2 : PW X (.BoolOp .Or (b :: rest) pos) (upT X.K W u)) : PW X (.BoolOp .Or (a :: b :: rest) pos) (upT X.K W (dtOr t u)) := by
  refine pw_conv (pw_or h h2) fun σ H Q h => ?_
  obtain ⟨C, M, env, k, x, R, h, hk, hx⟩ := h
  refine ⟨C, M, env, _, x, R, h, fun b e1 H1 M1 h1 R1 k1 g1 => ?_, hx⟩
  cases b with
  | true =>
    rw [if_pos rfl] at h1 ⊢
    exact hk true e1 H1 M1 h1 R1 k1 g1
  | false =>
    rw [if_neg Bool.false_ne_true] at h1 ⊢
    exact ⟨C, M1, e1, k, x, R1, h1, fun b e2 H2 M2 h2 R2 k2 g2 => hk b e2 H2 M2 h2 R2 (k1.trans g1 k2) (Grow.trans k1 g1 g2), fun e env' H' M' xe R' k' g' => hx e env' H' M' xe R' (k1.trans g1 k') (Grow.trans k1 g1 g')⟩
theorem de_one {op} (h : PE X a (up X.K W ta)) : PE X (.BoolOp op [a] pos) (up X.K W ta) := pe_one h
theorem de_and {rest : List Expr} (ha : PE X a (up X.K W ta)) (hb : PE X (.BoolOp .And (b :: rest) pos) (up X.K W tb)) : PE X (.BoolOp .And (a :: b :: rest) pos) (up X.K W (dAndV ta tb)) := by
  refine pe_conv (pe_and ha hb) fun σ H Q h => ?_
  obtain ⟨C, M, env, k, x, R, h, hk, hx⟩ := h
  refine ⟨C, M, env, _, x, R, h, fun d e1 v H1 M1 h1 R1 k1 g1 r1 => ?_, hx⟩
  obtain ⟨b, rfl, h1⟩ := h1
  have r1 : v = .bl b := r1
  refine ⟨b, r1, ?_⟩
  cases b with
  | true =>
    rw [if_pos rfl] at h1 ⊢
    exact ⟨C, M1, e1, k, x, R1, h1, fun b e2 v H2 M2 h2 R2 k2 g2 r2 => hk b e2 v H2 M2 h2 R2 (k1.trans g1 k2) (Grow.trans k1 g1 g2) r2, fun e env' H' M' xe R' k' g' => hx e env' H' M' xe R' (k1.trans g1 k') (Grow.trans k1 g1 g')⟩
  | false =>
    rw [if_neg Bool.false_ne_true] at h1 ⊢
    exact hk _ e1 _ H1 M1 h1 R1 k1 g1 rfl
theorem de_or {rest : List Expr} (ha : PE X a (up X.K W ta)) (hb : PE X (.BoolOp .Or (b :: rest) pos) (up X.K W tb)) : PE X (.BoolOp .Or (a :: b :: rest) pos) (up X.K W (dOrV ta tb)) := by
  refine pe_conv (pe_or ha hb) fun σ H Q h => ?_
  obtain ⟨C, M, env, k, x, R, h, hk, hx⟩ := h
  refine ⟨C, M, env, _, x, R, h, fun d e1 v H1 M1 h1 R1 k1 g1 r1 => ?_, hx⟩
  obtain ⟨b, rfl, h1⟩ := h1
  have r1 : v = .bl b := r1
  refine ⟨b, r1, ?_⟩
  cases b with
  | true =>
    rw [if_pos rfl] at h1 ⊢
    exact hk _ e1 _ H1 M1 h1 R1 k1 g1 rfl
  | false =>
    rw [if_neg Bool.false_ne_true] at h1 ⊢
    exact ⟨C, M1, e1, k, x, R1, h1, fun b e2 v H2 M2 h2 R2 k2 g2 r2 => hk b e2 v H2 M2 h2 R2 (k1.trans g1 k2) (Grow.trans k1 g1 g2) r2, fun e env' H' M' xe R' k' g' => hx e env' H' M' xe R' (k1.trans g1 k') (Grow.trans k1 g1 g')⟩
theorem de_not (ha : PE X a (up X.K W ta)) : PE X (.UnaryOp .Not a pos) (up X.K W (dNotV ta)) := by
  refine pe_conv (pe_not ha) fun σ H Q h => ?_
  obtain ⟨C, M, env, k, x, R, h, hk, hx⟩ := h
  refine ⟨C, M, env, _, x, R, h, fun d e1 v H1 M1 h1 R1 k1 g1 r1 => ?_, hx⟩
  obtain ⟨b, rfl, h1⟩ := h1
  have r1 : v = .bl b := r1
  exact ⟨b, r1, hk _ e1 _ H1 M1 h1 R1 k1 g1 rfl⟩
theorem de_if {t : DT} (hc : PT X c (upT X.K W t)) (ha : PE X a (up X.K W ta)) (hb : PE X b (up X.K W tb)) : PE X (.IfExp c a b pos) (up X.K W (dIf t ta tb)) := by
  refine pe_conv (pe_ifExp hc ha hb) fun σ H Q h => ?_
  obtain ⟨C, M, env, k, x, R, h, hk, hx⟩ := h
  refine ⟨C, M, env, _, x, R, h, fun b e1 H1 M1 h1 R1 k1 g1 => ?_, hx⟩
  cases b with
  | true =>
    rw [if_pos rfl] at h1 ⊢
    exact ⟨C, M1, e1, k, x, R1, h1, fun b e2 v H2 M2 h2 R2 k2 g2 r2 => hk b e2 v H2 M2 h2 R2 (k1.trans g1 k2) (Grow.trans k1 g1 g2) r2, fun e env' H' M' xe R' k' g' => hx e env' H' M' xe R' (k1.trans g1 k') (Grow.trans k1 g1 g')⟩
  | false =>
    rw [if_neg Bool.false_ne_true] at h1 ⊢
    exact ⟨C, M1, e1, k, x, R1, h1, fun b e2 v H2 M2 h2 R2 k2 g2 r2 => hk b e2 v H2 M2 h2 R2 (k1.trans g1 k2) (Grow.trans k1 g1 g2) r2, fun e env' H' M' xe R' k' g' => hx e env' H' M' xe R' (k1.trans g1 k') (Grow.trans k1 g1 g')⟩
theorem sim_chain {K : PySem.W.Frag} {r r' : R2} {f g : D → D → Option D} (B : Bin K r f) (B' : Bin K r' g) {σ : L2.St} {H : Hp} {Q : VK} (h : up K W (dChain f g ta tb tc) σ H Q) : tChain r r' (up K W ta) (up K W tb) (up K W tc) σ H Q := by
  obtain ⟨C, M, env, k, x, R, h, hk, hx⟩ := h
  refine ⟨C, M, env, _, x, R, h, fun a e1 va H1 M1 h1 R1 k1 g1 r1 => ?_, hx⟩
  refine ⟨C, M1, e1, _, x, R1, h1, fun b e2 vb H2 M2 h2 R2 k2 g2 r2 => ?_, fun e env' H' M' xe R' k' g' => hx e env' H' M' xe R' (k1.trans g1 k') (Grow.trans k1 g1 g')⟩
  have k12 := k1.trans g1 k2
  have g12 := Grow.trans k1 g1 g2
  obtain ⟨z, hd, h2⟩ := h2
  refine B.ok R2.avt (k2.rep g2 r1) r2 hd fun v H3 s3 r3 => ?_
  have r3 : v = .bl z := r3
  refine ⟨z, r3, ?_⟩
  have R3 := R2.same s3
  have k3 : Keep M H H3 := k12.trans g12 (.same s3)
  have r2' := (Keep.same (M := M2) s3).rep (Grow.refl _ _) r2
  cases z with
  | true =>
    rw [if_pos rfl] at h2 ⊢
    refine ⟨C, M2, e2, _, x, R3, h2, fun c e4 vc H4 M4 h4 R4 k4 g4 r4 => ?_, fun e env' H' M' xe R' k' g' => hx e env' H' M' xe R' (k3.trans g12 k') (Grow.trans k3 g12 g')⟩
    obtain ⟨d, hd, kd⟩ := h4
    exact B'.ok R4.avt (k4.rep g4 r2') r4 hd (R4.fin (k3.trans g12 k4) (Grow.trans k3 g12 g4) kd hk)
  | false =>
    rw [if_neg Bool.false_ne_true] at h2 ⊢
    exact hk _ e2 _ H3 M2 h2 R3 k3 g12 rfl
theorem de_chain {op op' : CmpOp} {r r' : R2} {f g : D → D → Option D} (ho : OpR X (compareOp op) r) (ho' : OpR X (compareOp op') r') (B : Bin X.K r f) (B' : Bin X.K r' g) (ha : PE X a (up X.K W ta)) (hb : PE X b (up X.K W tb)) (hc : PE X c (up X.K W tc))
    (hm : lastMarks [op, op'] [b, c] = false := by with_unfolding_all rfl) : PE X (.Compare a [op, op'] [b, c] pos) (up X.K W (dChain f g ta tb tc)) :=
  pe_conv (pe_chain ho ho' ha hb hc hm) fun _ _ _ => sim_chain B B'
theorem dt_chain {op op' : CmpOp} {r r' : R2} {f g : D → D → Option D} (ho : OpR X (compareOp op) r) (ho' : OpR X (compareOp op') r') (B : Bin X.K r f) (B' : Bin X.K r' g) (ha : PE X a (up X.K W ta)) (hb : PE X b (up X.K W tb)) (hc : PE X c (up X.K W tc))
    (hm : lastMarks [op, op'] [b, c] = false := by with_unfolding_all rfl) : PT X (.Compare a [op, op'] [b, c] pos) (upT X.K W (dtB (dChain f g ta tb tc))) := by
  refine pt_conv (pt_chain ho ho' ha hb hc hm) fun σ H Q h => ?_
  obtain ⟨C, M, env, k, x, R, h, hk, hx⟩ := h
  refine sim_chain B B' ⟨C, M, env, _, x, R, h, fun a e1 va H1 M1 h1 R1 k1 g1 r1 => ?_, hx⟩
  obtain ⟨b, rfl, kd⟩ := h1
  have r1 : va = .bl b := r1
  exact ⟨b, r1, hk b e1 H1 M1 kd R1 k1 g1⟩
end
end FX

set_option Elab.async false
set_option linter.all false
set_option maxRecDepth 100000
set_option maxHeartbeats 1000000
/-! FxC: slots stored, frozen, taken, written; statements; while, for -/
namespace FX
open PySem PySem.Spec PyProof.Rows L2
section
variable {K : PySem.W.Frag} {W : HW} {C : Ctx} {M : AS} {env : Env} {σ : L2.St} {H : Hp} {Q : VK}

theorem get_set_cases {α : Type} {l : List α} {i j : Nat} {x y : α} (h : (l.set i x)[j]? = some y) : (i = j ∧ y = x ∧ i < l.length) ∨ (i ≠ j ∧ l[j]? = some y) := by
  by_cases e : i = j
  · subst e
    by_cases hl : i < l.length
    · rw [List.getElem?_set_self hl] at h
      exact .inl ⟨rfl, (Option.some.inj h).symm, hl⟩
    · rw [List.getElem?_eq_none (by simpa using hl)] at h
      cases h
  · rw [List.getElem?_set_ne e] at h
    exact .inr ⟨e, h⟩
theorem set_get {α : Type} {l : List α} {i : Nat} {x : α} (h : i < l.length) : (l.set i x)[i]? = some x := List.getElem?_set_self h

/-- a slot gets plain data -/
theorem Rel.storeF {i : Nat} {d : D} {v : V} (R : Rel K C M env σ H) (r : Rep K (fun a => C.G a ∨ M a) H d v) : Rel K C M (env.set i (.frz d)) (σ.set i (some v)) H := by
  obtain ⟨adr, ha, hs⟩ := R.sl
  refine ⟨R.gm, R.gt, R.mm, R.bh, by rw [List.length_set, List.length_set]; exact R.len, adr, fun j l s t e1 e2 m1 m2 e => ?_, fun j s e => ?_⟩
  · rcases get_set_cases e1 with ⟨_, rfl, _⟩ | ⟨_, e1⟩
    · cases m1
    · rcases get_set_cases e2 with ⟨_, rfl, _⟩ | ⟨_, e2⟩
      · cases m2
      · exact ha j l s t e1 e2 m1 m2 e
  · rcases get_set_cases e with ⟨rfl, rfl, hl⟩ | ⟨ne, e⟩
    · exact ⟨v, set_get (by rw [← R.len]; exact hl), r⟩
    · have q := hs j s e
      have hσ : (σ.set i (some v))[j]? = σ[j]? := List.getElem?_set_ne ne
      cases s with
      | no => exact True.intro
      | frz d => obtain ⟨v, h1, h2⟩ := q; exact ⟨v, hσ.trans h1, h2⟩
      | own d => obtain ⟨v, h1, h2⟩ := q; exact ⟨v, hσ.trans h1, h2⟩
      | par d => obtain ⟨h1, h2⟩ := q; exact ⟨hσ.trans h1, h2⟩
/-- a slot gets a new mutable thing -/
theorem Rel.storeO {i : Nat} {d : D} {v : V} {p : Addr} (R : Rel K (C.add p) M env σ H) (c : Cont K (fun a => (C.add p).G a ∨ M a) H p d v) (nb : ¬ C.B p) (ng : ¬ C.G p) : Rel K C (fun a => M a ∨ a = p) (env.set i (.own d)) (σ.set i (some v)) H := by
  obtain ⟨adr, ha, hs⟩ := R.sl
  have nm : ¬ M p := fun z => R.gm p (.inr rfl) z
  have av : ∀ a, H a ≠ none → (C.G a ∨ (M a ∨ a = p)) → ((C.add p).G a ∨ M a) := fun a _ z => by
    rcases z with z | z | z
    · exact .inl (.inl z)
    · exact .inr z
    · exact .inl (.inr z)
  refine ⟨fun a g z => z.elim (R.gm a (.inl g)) fun z => ng (z ▸ g), fun a g => R.gt a (.inl g), fun a z => z.elim (R.mm a) fun z => z ▸ c.mut, R.bh, by rw [List.length_set, List.length_set]; exact R.len, fun j => if j = i then p else adr j, fun j l s t e1 e2 m1 m2 e => ?_, fun j s e => ?_⟩
  · have other : ∀ {j s}, env[j]? = some s → s.mine = true → adr j ≠ p := fun {j s} e m z => by
      have q := hs j s e
      cases s with
      | no => cases m
      | frz d => cases m
      | own d => obtain ⟨v, h1, h2, h3⟩ := q; exact nm (z ▸ h2)
      | par d => obtain ⟨h1, h2, h3⟩ := q; exact nm (z ▸ h2)
    rcases get_set_cases e1 with ⟨rfl, rfl, _⟩ | ⟨n1, e1⟩
    · rcases get_set_cases e2 with ⟨e3, _, _⟩ | ⟨n2, e2⟩
      · exact e3
      · simp only [if_true, Ne.symm n2, if_false] at e
        exact absurd e.symm (other e2 m2)
    · rcases get_set_cases e2 with ⟨rfl, rfl, _⟩ | ⟨n2, e2⟩
      · simp only [if_true, Ne.symm n1, if_false] at e
        exact absurd e (other e1 m1)
      · simp only [Ne.symm n1, Ne.symm n2, if_false] at e
        exact ha j l s t e1 e2 m1 m2 e
  · rcases get_set_cases e with ⟨rfl, rfl, hl⟩ | ⟨ne, e⟩
    · refine ⟨v, set_get (by rw [← R.len]; exact hl), ?_⟩
      show (M (if i = i then p else adr i) ∨ (if i = i then p else adr i) = p) ∧ ¬ C.B (if i = i then p else adr i) ∧ Cont K _ H (if i = i then p else adr i) d v
      rw [if_pos rfl]
      exact ⟨.inr rfl, nb, c.mono (fun _ e => e) (fun _ _ e _ => e) av⟩
    · have q := hs j s e
      have hσ : (σ.set i (some v))[j]? = σ[j]? := List.getElem?_set_ne ne
      have hj : (if j = i then p else adr j) = adr j := if_neg (Ne.symm ne)
      cases s with
      | no => exact True.intro
      | frz d => obtain ⟨v, h1, h2⟩ := q; exact ⟨v, hσ.trans h1, Rep.mono (fun _ _ e _ => e) av d v h2⟩
      | own d =>
        obtain ⟨v, h1, h2, h3, h4⟩ := q
        refine ⟨v, hσ.trans h1, ?_⟩
        show (M (if j = i then p else adr j) ∨ _) ∧ ¬ C.B (if j = i then p else adr j) ∧ Cont K _ H (if j = i then p else adr j) d v
        rw [hj]
        exact ⟨.inl h2, h3, h4.mono (fun _ e => e) (fun _ _ e _ => e) av⟩
      | par d =>
        obtain ⟨h1, h2, h4⟩ := q
        refine ⟨hσ.trans h1, ?_⟩
        show (M (if j = i then p else adr j) ∨ _) ∧ Cont K _ H (if j = i then p else adr j) d (C.P j)
        rw [hj]
        exact ⟨.inl h2, h4.mono (fun _ e => e) (fun _ _ e _ => e) av⟩
/-- a mutable thing of ours is given away -/
theorem Rel.take {i : Nat} {d : D} (R : Rel K C M env σ H) (e : env[i]? = some (.own d)) :
    ∃ p v, σ[i]? = some (some v) ∧ M p ∧ ¬ C.B p ∧ Cont K (fun a => C.G a ∨ M a) H p d v ∧ Rel K C (fun a => M a ∧ a ≠ p) (env.set i .no) σ H := by
  obtain ⟨adr, ha, hs⟩ := R.sl
  obtain ⟨v, h1, h2, h3, h4⟩ := hs i _ e
  refine ⟨adr i, v, h1, h2, h3, h4, fun a g z => R.gm a g z.1, R.gt, fun a z => R.mm a z.1, R.bh, by rw [List.length_set]; exact R.len, adr, fun j l s t e1 e2 m1 m2 e => ?_, fun j s e' => ?_⟩
  · rcases get_set_cases e1 with ⟨_, rfl, _⟩ | ⟨_, e1⟩
    · cases m1
    · rcases get_set_cases e2 with ⟨_, rfl, _⟩ | ⟨_, e2⟩
      · cases m2
      · exact ha j l s t e1 e2 m1 m2 e
  · have av : ∀ a, H a ≠ none → (C.G a ∨ (M a ∧ a ≠ adr i)) → (C.G a ∨ M a) := fun a _ z => z.elim .inl fun z => .inr z.1
    rcases get_set_cases e' with ⟨rfl, rfl, hl⟩ | ⟨ne, e'⟩
    · exact True.intro
    · have q := hs j s e'
      cases s with
      | no => exact True.intro
      | frz d => obtain ⟨v, h1, h2⟩ := q; exact ⟨v, h1, Rep.mono (fun _ _ e _ => e) av d v h2⟩
      | own d =>
        obtain ⟨v, h1, h2, h3, h4⟩ := q
        exact ⟨v, h1, ⟨h2, fun z => ne (ha j i _ _ e' e rfl rfl z).symm⟩, h3, h4.mono (fun _ e => e) (fun _ _ e _ => e) av⟩
      | par d =>
        obtain ⟨h1, h2, h4⟩ := q
        exact ⟨h1, ⟨h2, fun z => ne (ha j i _ _ e' e rfl rfl z).symm⟩, h4.mono (fun _ e => e) (fun _ _ e _ => e) av⟩
theorem take_rep {d : D} {v : V} {p : Addr} (gm : ∀ a, C.G a → ¬ M a) (hm : M p) (c : Cont K (fun a => C.G a ∨ M a) H p d v) : Rep K (fun a => C.G a ∨ (M a ∧ a ≠ p)) H d v :=
  c.freeze (fun a _ z => z.elim .inl fun z => .inr z.1) fun z => z.elim (fun z => gm p z hm) fun z => z.2 rfl
/-- .. frozen where it is -/
theorem Rel.freeze {i : Nat} {d : D} (R : Rel K C M env σ H) (e : env[i]? = some (.own d)) : ∃ M', Rel K C M' (env.set i (.frz d)) σ H ∧ Grow M H M' := by
  obtain ⟨p, v, h1, h2, h3, h4, R'⟩ := R.take e
  refine ⟨fun a => M a ∧ a ≠ p, ?_, fun a z => .inl z.1⟩
  have R2 := R'.storeF (i := i) (take_rep R.gm h2 h4)
  have hl : i < σ.length := (List.getElem?_eq_some_iff.mp h1).1
  have e1 : (env.set i Sl.no).set i (.frz d) = env.set i (.frz d) := by rw [List.set_set]
  have e2 : σ.set i (some v) = σ := by
    apply List.ext_getElem?
    intro j
    by_cases hj : i = j
    · subst hj; rw [set_get hl, h1]
    · rw [List.getElem?_set_ne hj]
  rw [e1, e2] at R2
  exact R2
def Sl.put : Sl → D → Sl
  | .own _, d => .own d
  | .par _, d => .par d
  | s, _ => s
/-- a mutable thing of ours (or handed in) is changed -/
theorem Rel.change {i : Nat} {s : Sl} (R : Rel K C M env σ H) (e : env[i]? = some s) (hm : s.mine = true) :
    ∃ p d v, σ[i]? = some (some v) ∧ (s = .own d ∨ s = .par d) ∧ M p ∧ Cont K (fun a => C.G a ∨ M a) H p d v ∧
      ∀ (H' : Hp) d', (∀ a, a ≠ p → H' a = H a) → Mut (H' p) → Cont K (fun a => C.G a ∨ M a) H' p d' v → Rel K C M (env.set i (s.put d')) σ H' ∧ Keep M H H' := by
  obtain ⟨adr, ha, hs⟩ := R.sl
  have main : ∀ d v, (s = .own d ∨ s = .par d) → σ[i]? = some (some v) → M (adr i) → Cont K (fun a => C.G a ∨ M a) H (adr i) d v → (∀ d', s = .own d' → ¬ C.B (adr i)) → (∀ d', s = .par d' → v = C.P i) →
      ∀ (H' : Hp) d', (∀ a, a ≠ adr i → H' a = H a) → Mut (H' (adr i)) → Cont K (fun a => C.G a ∨ M a) H' (adr i) d' v → Rel K C M (env.set i (s.put d')) σ H' ∧ Keep M H H' := by
    intro d v hsd h1 h2 h4 hB hP H' d' hk mu c
    have kp : ∀ a o, H a = some o → ¬ (C.G a ∨ M a) → H' a = some o := fun a o e n => by rw [hk a fun z => n (.inr (z ▸ h2))]; exact e
    have th : ∀ a, H a ≠ none → H' a ≠ none := fun a n => by
      by_cases z : a = adr i
      · subst z; intro q; rw [q] at mu; exact mu
      · rw [hk a z]; exact n
    refine ⟨⟨R.gm, fun a g => by rw [hk a fun z => R.gm a g (z ▸ h2)]; exact R.gt a g, fun a m => ?_, fun a b => th a (R.bh a b), by rw [List.length_set]; exact R.len, adr, fun j l s' t e1 e2 m1 m2 q => ?_, fun j s' e' => ?_⟩, ⟨fun a o e n => by rw [hk a fun z => n (z ▸ h2)]; exact e, th⟩⟩
    · by_cases z : a = adr i
      · subst z; exact mu
      · rw [hk a z]; exact R.mm a m
    · have back : ∀ {j : Nat} {s' : Sl}, (env.set i (s.put d'))[j]? = some s' → s'.mine = true → ∃ s'', env[j]? = some s'' ∧ s''.mine = true := fun {j s'} e' m => by
        rcases get_set_cases e' with ⟨rfl, _, _⟩ | ⟨_, e'⟩
        · exact ⟨s, e, hm⟩
        · exact ⟨s', e', m⟩
      obtain ⟨s1, q1, n1⟩ := back e1 m1
      obtain ⟨s2, q2, n2⟩ := back e2 m2
      exact ha j l s1 s2 q1 q2 n1 n2 q
    · have av : ∀ a, H a ≠ none → (C.G a ∨ M a) → (C.G a ∨ M a) := fun _ _ z => z
      rcases get_set_cases e' with ⟨rfl, rfl, hl⟩ | ⟨ne, e'⟩
      · rcases hsd with rfl | rfl
        · exact ⟨v, h1, h2, hB d rfl, c⟩
        · have := hP d rfl
          subst this
          exact ⟨h1, h2, c⟩
      · have q := hs j s' e'
        have nadr : s'.mine = true → adr j ≠ adr i := fun m z => ne (ha j i s' s e' e m hm z).symm
        cases s' with
        | no => exact True.intro
        | frz d => obtain ⟨v, h1, h2⟩ := q; exact ⟨v, h1, Rep.mono kp av d v h2⟩
        | own d => obtain ⟨v, h1, h2, h3, h4⟩ := q; exact ⟨v, h1, h2, h3, h4.mono (fun o e => by rw [hk _ (nadr rfl)]; exact e) kp av⟩
        | par d => obtain ⟨h1, h2, h4⟩ := q; exact ⟨h1, h2, h4.mono (fun o e => by rw [hk _ (nadr rfl)]; exact e) kp av⟩
  have q := hs i s e
  cases s with
  | no => cases hm
  | frz d => cases hm
  | own d =>
    obtain ⟨v, h1, h2, h3, h4⟩ := q
    exact ⟨adr i, d, v, h1, .inl rfl, h2, h4, main d v (.inl rfl) h1 h2 h4 (fun _ _ => h3) (fun _ z => nomatch z)⟩
  | par d =>
    obtain ⟨h1, h2, h4⟩ := q
    exact ⟨adr i, d, C.P i, h1, .inr rfl, h2, h4, main d (C.P i) (.inr rfl) h1 h2 h4 (fun _ z => nomatch z) (fun _ _ => rfl)⟩
/-- all slots seen as plain data: nothing can be changed -/
def Sl.seen : Sl → Sl
  | .own d => .frz d
  | .par d => .frz d
  | s => s
theorem Rel.seen (R : Rel K C M env σ H) : Rel K C (fun _ => False) (env.map Sl.seen) σ H := by
  obtain ⟨adr, ha, hs⟩ := R.sl
  refine ⟨fun _ _ z => z, R.gt, fun _ z => z.elim, R.bh, by rw [List.length_map]; exact R.len, adr, fun j l s t e1 e2 m1 m2 e => ?_, fun j s e => ?_⟩
  · rw [List.getElem?_map] at e1
    cases q : env[j]? with
    | none => rw [q] at e1; cases e1
    | some s' =>
      rw [q] at e1
      have e1 : s'.seen = s := Option.some.inj e1
      subst e1
      cases s' <;> cases m1
  · rw [List.getElem?_map] at e
    cases q : env[j]? with
    | none => rw [q] at e; cases e
    | some s' =>
      rw [q] at e
      have e1 : s'.seen = s := Option.some.inj e
      subst e1
      have z := hs j s' q
      have av : ∀ a, H a ≠ none → (C.G a ∨ False) → (C.G a ∨ M a) := fun a _ z => z.elim .inl False.elim
      cases s' with
      | no => exact True.intro
      | frz d => obtain ⟨v, h1, h2⟩ := z; exact ⟨v, h1, Rep.mono (fun _ _ e _ => e) av d v h2⟩
      | own d => obtain ⟨v, h1, h2, h3, h4⟩ := z; exact ⟨v, h1, h4.freeze av fun z => z.elim (fun z => R.gm _ z h2) id⟩
      | par d => obtain ⟨h1, h2, h4⟩ := z; exact ⟨C.P j, h1, h4.freeze av fun z => z.elim (fun z => R.gm _ z h2) id⟩
theorem Keep.toSame {H H' : Hp} (k : Keep (fun _ => False) H H') : Same H H' := fun a o e => k.kp a o e id
end

/-! ### expressions that read the slots as they are, or give one away -/
/-- evaluated with all slots read only; what comes is immutable -/
def dPur (t : DE) : DE := fun env k _ => t (env.map Sl.seen) (fun d _ => imm d = true ∧ k d env) (fun _ _ => False)
def immL : D → Bool
  | .lst ds => imms ds
  | .dI _ => false
  | .dT _ => false
  | _ => false
/-- .. what comes is a new list of immutable things -/
def dPurF (t : DE) : DE := fun env k _ => t (env.map Sl.seen) (fun d _ => immL d = true ∧ k d env) (fun _ _ => False)
def dtPur (t : DT) : DT := fun env k _ => t (env.map Sl.seen) (fun b _ => k b env) (fun _ _ => False)
def dTake (i : Nat) : DE := fun env k _ => ∃ d, env[i]? = some (.own d) ∧ k d (env.set i .no)
section
variable {X : Cx} {W : HW} {e : Expr} {pos : Pos} {t : DE}
theorem de_pur (h : PE X e (up X.K W t)) : PE X e (up X.K W (dPur t)) := by
  refine pe_conv h fun σ H Q h => ?_
  obtain ⟨C, M, env, k, x, R, h, hk, hx⟩ := h
  refine ⟨C, _, _, _, _, R.seen, h, fun d e1 v H1 M1 h1 R1 k1 g1 r1 => ?_, fun e env' H' M' xe _ _ _ => xe.elim⟩
  obtain ⟨i, kd⟩ := h1
  have R2 := R.same k1.toSame
  refine hk d env v H1 M kd R2 (.same k1.toSame) (.refl _ _) (Rep.imm (fun a z => ?_) d v i r1)
  rcases z with z | z
  · exact .inl (.inl z)
  · exact .inr (R2.mm a z)
theorem dt_pur {t : DT} (h : PT X e (upT X.K W t)) : PT X e (upT X.K W (dtPur t)) := by
  refine pt_conv h fun σ H Q h => ?_
  obtain ⟨C, M, env, k, x, R, h, hk, hx⟩ := h
  refine ⟨C, _, _, _, _, R.seen, h, fun d e1 H1 M1 h1 R1 k1 g1 => ?_, fun e env' H' M' xe _ _ _ => xe.elim⟩
  exact hk d env H1 M h1 (R.same k1.toSame) (.same k1.toSame) (.refl _ _)
theorem de_purF (h : PE X e (upF X.K W t)) : PE X e (upF X.K W (dPurF t)) := by
  refine pe_conv h fun σ H Q h => ?_
  obtain ⟨C, M, env, k, x, R, h, hk, hx⟩ := h
  refine ⟨C, _, _, _, _, R.seen, h, fun d e1 p v H1 M1 h1 R1 k1 g1 hp c => ?_, fun e env' H' M' xe _ _ _ => xe.elim⟩
  obtain ⟨i, kd⟩ := h1
  have R2 := R.add k1.toSame hp c.mut
  refine hk d env p v H1 M kd R2 (.same k1.toSame) (.refl _ _) hp ?_
  cases d with
  | lst ds =>
    obtain ⟨e, vs, h, r⟩ := c
    refine ⟨e, vs, h, Reps.imm (fun a z => ?_) ds vs i r⟩
    rcases z with z | z
    · exact .inl (.inl z)
    · exact .inr (R2.mm a z)
  | non | bl _ | int _ | str _ | tup _ | dI _ | dT _ | scr _ | obj _ _ => cases i
theorem de_take (i : Nat) {x : Str} (hN : X.N[i]? = some x := by rfl) (hv : Vis X.env.scope x := by first | exact Or.inl rfl | exact Or.inr (Or.inl rfl) | exact Or.inr (Or.inr rfl)) (hd : (x == ("__debug__" : Str)) = false := by decide)
    (hcd : (x == ("__classdict__" : Str)) = false := by decide) : PE X (.Name x pos) (up X.K W (dTake i)) := by
  refine pe_conv (pe_var hN hv hd hcd) fun σ H Q h => ?_
  obtain ⟨C, M, env, k, x, R, ⟨d, he, kd⟩, hk, hx⟩ := h
  obtain ⟨p, v, h1, h2, h3, h4, R'⟩ := R.take he
  exact ⟨v, h1, hk d _ v H _ kd R' (.refl _ _) (fun a z => .inl z.1) (take_rep R.gm h2 h4)⟩
end

/-! ### statements -/
def sNext : DS := fun k env => k.nx env
def sSeq (t u : DS) : DS := fun k env => t { k with nx := u k } env
def sRet (t : DE) : DS := fun k env => t env k.rt k.ex
def sRetN : DS := fun k env => k.rt .non env
def sRetOwn (i : Nat) : DS := fun k env => ∃ d, env[i]? = some (.own d) ∧ k.rt d (env.set i .no)
def sAsg (i : Nat) (t : DE) : DS := fun k env => t env (fun d e => k.nx (e.set i (.frz d))) k.ex
def sAsgO (i : Nat) (t : DE) : DS := fun k env => t env (fun d e => k.nx (e.set i (.own d))) k.ex
def sExpr (t : DE) : DS := fun k env => t env (fun _ e => k.nx e) k.ex
def sIf (c : DT) (t u : DS) : DS := fun k env => c env (fun b e => if b = true then t k e else u k e) k.ex
def sNever : DS := fun _ _ => False
def sBreak : DS := fun k env => k.bk env
def sCont : DS := fun k env => k.ct env
/-- a slot's mutable thing will not be changed any more -/
def sFreeze (i : Nat) (t : DS) : DS := fun k env => ∃ d, env[i]? = some (.own d) ∧ t k (env.set i (.frz d))
section
variable {X : Cx} {W : HW} {fr : Bool} {e c : Expr} {st : Stmt} {rest a b : List Stmt} {pos : Pos} {te : DE} {t u : DS}
theorem ds_nil : PSs X [] (upS X.K W fr sNext) := by
  refine pss_conv pss_nil fun D σ H h => ?_
  obtain ⟨C, M, env, k, R, h, hn, _⟩ := h
  exact hn env σ H M h R (.refl _ _) (.refl _ _)
theorem ds_pass : PS X (.Pass pos) (upS X.K W fr sNext) := by
  refine ps_conv ps_pass fun D σ H h => ?_
  obtain ⟨C, M, env, k, R, h, hn, _⟩ := h
  exact hn env σ H M h R (.refl _ _) (.refl _ _)
theorem ds_break : PS X (.Break pos) (upS X.K W fr sBreak) := by
  refine ps_conv ps_break fun D σ H h => ?_
  obtain ⟨C, M, env, k, R, h, _, _, _, hb, _⟩ := h
  exact hb env σ H M h R (.refl _ _) (.refl _ _)
theorem ds_continue : PS X (.Continue pos) (upS X.K W fr sCont) := by
  refine ps_conv ps_continue fun D σ H h => ?_
  obtain ⟨C, M, env, k, R, h, _, _, _, _, hc⟩ := h
  exact hc env σ H M h R (.refl _ _) (.refl _ _)
/-- from a state further on -/
theorem upS.on {K : PySem.W.Frag} {C : Ctx} {M M1 : AS} {H H1 : Hp} {k : DK} {S : Ends} {t : DS} {env1 : Env} {σ1 : L2.St} (k1 : Keep M H H1) (g1 : Grow M H M1) (R1 : Rel K C M1 env1 σ1 H1) (h1 : t k env1)
    (hn : ∀ env' σ' H' M', k.nx env' → Rel K C M' env' σ' H' → Keep M H H' → Grow M H M' → S.nx σ' H')
    (hh : (∀ d env' v σ' H' M', k.rt d env' → Rel K C M' env' σ' H' → Keep M H H' → Grow M H M' →
      (if fr = true then ∃ p, ¬ C.B p ∧ ¬ C.G p ∧ ¬ M' p ∧ Cont K (fun a => (C.G a ∨ M' a) ∨ a = p) H' p d v else Rep K (fun a => C.G a ∨ M' a) H' d v) → S.rt v H') ∧
    (∀ e env' σ' H' M', k.ex e env' → Rel K C M' env' σ' H' → Keep M H H' → Grow M H M' → W e H') ∧
    (∀ env' σ' H' M', k.bk env' → Rel K C M' env' σ' H' → Keep M H H' → Grow M H M' → S.bk σ' H') ∧
    (∀ env' σ' H' M', k.ct env' → Rel K C M' env' σ' H' → Keep M H H' → Grow M H M' → S.ct σ' H')) : upS K W fr t S σ1 H1 := by
  obtain ⟨hr, hx, hb, hc⟩ := hh
  exact ⟨C, M1, env1, k, R1, h1, fun e s h m q r kk g => hn e s h m q r (k1.trans g1 kk) (Grow.trans k1 g1 g), fun d e v s h m q r kk g z => hr d e v s h m q r (k1.trans g1 kk) (Grow.trans k1 g1 g) z,
    fun y e s h m q r kk g => hx y e s h m q r (k1.trans g1 kk) (Grow.trans k1 g1 g), fun e s h m q r kk g => hb e s h m q r (k1.trans g1 kk) (Grow.trans k1 g1 g), fun e s h m q r kk g => hc e s h m q r (k1.trans g1 kk) (Grow.trans k1 g1 g)⟩
theorem ds_cons (h1 : PS X st (upS X.K W fr t)) (h2 : PSs X rest (upS X.K W fr u)) : PSs X (st :: rest) (upS X.K W fr (sSeq t u)) := by
  refine pss_conv (pss_cons h1 h2) fun D σ H h => ?_
  obtain ⟨C, M, env, k, R, h, hn, hh⟩ := h
  exact ⟨C, M, env, _, R, h, fun env' σ' H' M' q R' k' g' => upS.on k' g' R' q hn hh, hh⟩
theorem ds_one (h1 : PS X st (upS X.K W fr t)) : PSs X [st] (upS X.K W fr t) := pss_one h1
theorem ds_freeze (i : Nat) (h : PSs X rest (upS X.K W fr t)) : PSs X rest (upS X.K W fr (sFreeze i t)) := by
  refine pss_conv h fun D σ H h => ?_
  obtain ⟨C, M, env, k, R, ⟨d, he, h⟩, hn, hh⟩ := h
  obtain ⟨M', R', g⟩ := R.freeze he
  exact upS.on (.refl _ _) g R' h hn hh
theorem ds_freeze1 (i : Nat) (h : PS X st (upS X.K W fr t)) : PS X st (upS X.K W fr (sFreeze i t)) := by
  refine ps_conv h fun D σ H h => ?_
  obtain ⟨C, M, env, k, R, ⟨d, he, h⟩, hn, hh⟩ := h
  obtain ⟨M', R', g⟩ := R.freeze he
  exact upS.on (.refl _ _) g R' h hn hh
theorem ds_ret (h : PE X e (up X.K W te)) : PS X (.Return (some e) pos) (upS X.K W false (sRet te)) := by
  refine ps_conv (ps_ret h) fun D σ H h => ?_
  obtain ⟨C, M, env, k, R, h, hn, hr, hx, _⟩ := h
  exact ⟨C, M, env, _, _, R, h, fun d e1 v H1 M1 h1 R1 k1 g1 r1 => hr d e1 v σ H1 M1 h1 R1 k1 g1 r1, fun e env' H' M' xe R' k' g' => hx e env' σ H' M' xe R' k' g'⟩
theorem ds_retF (h : PE X e (upF X.K W te)) : PS X (.Return (some e) pos) (upS X.K W true (sRet te)) := by
  refine ps_conv (ps_ret h) fun D σ H h => ?_
  obtain ⟨C, M, env, k, R, h, hn, hr, hx, _⟩ := h
  refine ⟨C, M, env, _, _, R, h, fun d e1 p v H1 M1 h1 R1 k1 g1 hp c => hr d e1 v σ H1 M1 h1 R1.drop k1 g1 ⟨p, fun z => R.bh p z hp, fun z => R.gh p z hp, R1.gm p (.inr rfl), ?_⟩, fun e env' H' M' xe R' k' g' => hx e env' σ H' M' xe R' k' g'⟩
  exact c.mono (fun _ e => e) (fun _ _ e _ => e) fun a _ z => by
    rcases z with (z | z) | z
    · exact .inl (.inl z)
    · exact .inr z
    · exact .inl (.inr z)
theorem ds_retOwn (i : Nat) {x : Str} {p : Pos} (hN : X.N[i]? = some x := by rfl) (hv : Vis X.env.scope x := by first | exact Or.inl rfl | exact Or.inr (Or.inl rfl) | exact Or.inr (Or.inr rfl)) (hd : (x == ("__debug__" : Str)) = false := by decide)
    (hcd : (x == ("__classdict__" : Str)) = false := by decide) : PS X (.Return (some (.Name x p)) pos) (upS X.K W fr (sRetOwn i)) := by
  refine ps_conv (ps_ret (pe_var hN hv hd hcd)) fun D σ H h => ?_
  obtain ⟨C, M, env, k, R, ⟨d, he, h⟩, hn, hr, hx, _⟩ := h
  obtain ⟨p, v, h1, h2, h3, h4, R'⟩ := R.take he
  refine ⟨v, h1, hr d _ v σ H _ h R' (.refl _ _) (fun a z => .inl z.1) ?_⟩
  cases fr with
  | true =>
    rw [if_pos rfl]
    exact ⟨p, h3, fun z => R.gm p z h2, fun z => z.2 rfl, h4.mono (fun _ e => e) (fun _ _ e _ => e) fun a _ z => z.elim (fun z => z.elim .inl fun z => .inr z.1) fun z => .inr (z ▸ h2)⟩
  | false =>
    rw [if_neg Bool.false_ne_true]
    exact take_rep R.gm h2 h4
theorem ds_retN : PS X (.Return none pos) (upS X.K W false sRetN) := by
  refine ps_conv ps_retN fun D σ H h => ?_
  obtain ⟨C, M, env, k, R, h, hn, hr, hx, _⟩ := h
  exact hr .non env .non σ H M h R (.refl _ _) (.refl _ _) rfl
theorem ds_set {i : Nat} {x : Str} {p : Pos} (hN : X.N.Nodup) (hi : X.N[i]? = some x) (hx : Loc X.env.scope x) (he : PE X e (up X.K W te)) (hs : swapsWith e (some (.Name x p)) pos.line X.env = pure false := by rfl) (hf : X.fn x = true ∨ X.env.scope.names.lookup x = some .local := by first | exact .inl rfl | exact .inr rfl | assumption) :
    PS X (.Assign [.Name x p] e pos) (upS X.K W fr (sAsg i te)) := by
  refine ps_conv (ps_set hN hi hx he hs hf) fun D σ H h => ?_
  obtain ⟨C, M, env, k, R, h, hn, hr, hx, _⟩ := h
  exact ⟨C, M, env, _, _, R, h, fun d e1 v H1 M1 h1 R1 k1 g1 r1 => hn _ _ H1 M1 h1 (R1.storeF r1) k1 g1, fun e env' H' M' xe R' k' g' => hx e env' σ H' M' xe R' k' g'⟩
theorem grow_add {M M1 : AS} {H : Hp} {p : Addr} (g : Grow M H M1) (hp : H p = none) : Grow M H (fun a => M1 a ∨ a = p) := fun a z => z.elim (g a) fun z => .inr (z ▸ hp)
theorem ds_setO {i : Nat} {x : Str} {p : Pos} (hN : X.N.Nodup) (hi : X.N[i]? = some x) (hx : Loc X.env.scope x) (he : PE X e (upF X.K W te)) (hs : swapsWith e (some (.Name x p)) pos.line X.env = pure false := by rfl) (hf : X.fn x = true ∨ X.env.scope.names.lookup x = some .local := by first | exact .inl rfl | exact .inr rfl | assumption) :
    PS X (.Assign [.Name x p] e pos) (upS X.K W fr (sAsgO i te)) := by
  refine ps_conv (ps_set hN hi hx he hs hf) fun D σ H h => ?_
  obtain ⟨C, M, env, k, R, h, hn, hr, hx, _⟩ := h
  exact ⟨C, M, env, _, _, R, h, fun d e1 p v H1 M1 h1 R1 k1 g1 hp c => hn _ _ H1 _ h1 (R1.storeO c (fun z => R.bh p z hp) (fun z => R.gh p z hp)) k1 (grow_add g1 hp), fun e env' H' M' xe R' k' g' => hx e env' σ H' M' xe R' k' g'⟩
theorem ds_expr (he : PE X e (up X.K W te)) (hs : swapsWith e none pos.line X.env = pure false := by rfl) : PS X (.Expr e pos) (upS X.K W fr (sExpr te)) := by
  refine ps_conv (ps_expr he hs) fun D σ H h => ?_
  obtain ⟨C, M, env, k, R, h, hn, hr, hx, _⟩ := h
  exact ⟨C, M, env, _, _, R, h, fun d e1 v H1 M1 h1 R1 k1 g1 r1 => hn _ _ H1 M1 h1 R1 k1 g1, fun e env' H' M' xe R' k' g' => hx e env' σ H' M' xe R' k' g'⟩
theorem ds_if {tc : DT} (hc : PT X c (upT X.K W tc)) (ha : PSs X a (upS X.K W fr t)) (hb : PSs X b (upS X.K W fr u)) : PS X (.If c a b pos) (upS X.K W fr (sIf tc t u)) := by
  refine ps_conv (ps_if hc ha hb) fun D σ H h => ?_
  obtain ⟨C, M, env, k, R, h, hn, hr, hx, hbc⟩ := h
  refine ⟨C, M, env, _, _, R, h, fun d e1 H1 M1 h1 R1 k1 g1 => ?_, fun e env' H' M' xe R' k' g' => hx e env' σ H' M' xe R' k' g'⟩
  cases d with
  | true =>
    rw [if_pos rfl] at h1 ⊢
    exact upS.on k1 g1 R1 h1 hn ⟨hr, hx, hbc⟩
  | false =>
    rw [if_neg Bool.false_ne_true] at h1 ⊢
    exact upS.on k1 g1 R1 h1 hn ⟨hr, hx, hbc⟩
theorem ds_never : PS X st (upS X.K W fr sNever) := ps_conv ps_never fun D σ H h => by
  obtain ⟨C, M, env, k, R, h, _⟩ := h
  exact h
end

/-! ### loops -/
/-- the invariant, with a measure -/
def sWhile (c : DT) (tb : DS) : DS := fun k env => ∃ I : Nat → Env → Prop, (∃ m, I m env) ∧ ∀ m env, I m env →
  c env (fun b e => if b = true then tb { k with nx := fun e' => ∃ m', m' < m ∧ I m' e', ct := fun e' => ∃ m', m' < m ∧ I m' e', bk := k.nx } e else k.nx e) k.ex
section
variable {X : Cx} {W : HW} {fr : Bool} {e c : Expr} {st : Stmt} {body : List Stmt} {pos : Pos} {tc : DT} {tb : DS}
theorem ds_while (hp : PassesOwn (model X.prog X.w) X.A X.env X.xe) (hc : PT X c (upT X.K W tc)) (hb : PSs X body (upS X.K W fr tb)) : PS X (.While c body [] pos) (upS X.K W fr (sWhile tc tb)) := by
  refine ps_conv (ps_while hp hc hb) fun D σ H h => ?_
  obtain ⟨C, M, env, k, R, ⟨I, ⟨m0, i0⟩, turn⟩, hn, hr, hx, hbk, hct⟩ := h
  refine ⟨fun m σ' H' => ∃ M' env', Rel X.K C M' env' σ' H' ∧ Keep M H H' ∧ Grow M H M' ∧ I m env', ⟨m0, M, env, R, .refl _ _, .refl _ _, i0⟩, ?_⟩
  rintro m σ1 H1 ⟨M1, env1, R1, k1, g1, i1⟩
  refine ⟨C, M1, env1, _, _, R1, turn m env1 i1, fun b e2 H2 M2 h2 R2 k2 g2 => ?_, fun e env' H' M' xe R' k' g' => hx e env' _ H' M' xe R' (k1.trans g1 k') (Grow.trans k1 g1 g')⟩
  have k12 := k1.trans g1 k2
  have g12 := Grow.trans k1 g1 g2
  cases b with
  | true =>
    rw [if_pos rfl] at h2
    refine iteT ⟨fun σ' H' => ∃ m' M' env', m' < m ∧ Rel X.K C M' env' σ' H' ∧ Keep M H H' ∧ Grow M H M' ∧ I m' env', fun σ' H' ⟨m', M', env', hm, q⟩ => ⟨m', hm, M', env', q⟩, ?_⟩
    refine upS.on (k := { k with nx := fun e' => ∃ m', m' < m ∧ I m' e', ct := fun e' => ∃ m', m' < m ∧ I m' e', bk := k.nx }) k12 g12 R2 h2 (fun env' σ' H' M' ⟨m', hm, q⟩ R' k' g' => ⟨m', M', env', hm, R', k', g', q⟩) ⟨hr, hx, hn, fun env' σ' H' M' ⟨m', hm, q⟩ R' k' g' => ⟨m', M', env', hm, R', k', g', q⟩⟩
  | false =>
    rw [if_neg Bool.false_ne_true] at h2
    exact iteF (hn e2 σ1 H2 M2 h2 R2 k12 g12)
end
end FX

set_option Elab.async false
set_option linter.all false
set_option maxRecDepth 100000
set_option maxHeartbeats 1000000
/-! FxD: what is walked; targets; for; comprehensions -/
namespace FX
open PySem PySem.Spec PyProof.Rows L2

/-! ### what is walked -/
abbrev DI := DA
/-- J yields the items, as long as what they lean on stands -/
def ItOk (K : PySem.W.Frag) (Av0 : AS) (H0 : Hp) (J : It) (items : List D) : Prop :=
  ∀ i H Av, (∀ a o, H0 a = some o → ¬ Av0 a → H a = some o) → (∀ a, H0 a ≠ none → Av a → Av0 a) → AvT Av H →
    (∀ d, items[i]? = some d → J.go i H ∧ ∀ x H', J.yld i H x H' → Same H H' ∧ Rep K Av H' d x) ∧ (items.length ≤ i → J.stop i H)
def upI (K : PySem.W.Frag) (W : HW) (t : DI) : TI := fun σ H R => ∃ (C : Ctx) (M : AS) (env : Env) (k : List D → Env → Prop) (x : XW), Rel K C M env σ H ∧ t env k x ∧
  (∀ ds env' J H' M', k ds env' → Rel K C M' env' σ H' → Keep M H H' → Grow M H M' → ItOk K (fun a => C.G a ∨ M' a) H' J ds → R J H') ∧
  (∀ e env' H' M', x e env' → Rel K C M' env' σ H' → Keep M H H' → Grow M H M' → W e H')
theorem pi_conv {X : Cx} {tg e : Expr} {t t' : TI} (h : PI X tg e t) (c : ∀ σ H Q, t' σ H Q → t σ H Q) : PI X tg e t' := ⟨fun pins s σ H Q I q => h.run pins s σ H Q I (c σ H Q q)⟩
def itemsD : D → Option (List D)
  | .lst ds => some ds
  | .tup ds => some ds
  | .scr ns => some (ns.map .int)
  | _ => none
/-- the items of a list or tuple -/
def diSeq (t : DE) : DI := fun env k x => t env (fun d e => ∃ ds, itemsD d = some ds ∧ k ds e) x
def rangeL (lo hi : Int) : List D := (List.range (hi - lo).toNat).map fun i => D.int (lo + (i : Nat))
def diRng1 (t : DE) : DI := fun env k x => t env (fun d e => ∃ n, d = .int n ∧ (-1000000000 < n ∧ n < 1000000000) ∧ k (rangeL 0 n) e) x
def diRng2 (t u : DE) : DI := fun env k x => t env (fun d e => u e (fun d2 e2 => ∃ i j, d = .int i ∧ d2 = .int j ∧ (-1000000000 < i ∧ i < 1000000000 ∧ -1000000000 < j ∧ j < 1000000000) ∧ k (rangeL i j) e2) x) x
def zipD : List D → List D → List D
  | a :: as, b :: bs => .tup [a, b] :: zipD as bs
  | _, _ => []
theorem zipD_get : ∀ {as bs : List D} {i : Nat} {d : D}, (zipD as bs)[i]? = some d → ∃ a b, as[i]? = some a ∧ bs[i]? = some b ∧ d = .tup [a, b]
  | [], bs, i, d, h => by simp [zipD] at h
  | a :: as, [], i, d, h => by simp [zipD] at h
  | a :: as, b :: bs, 0, d, h => by simp [zipD] at h; exact ⟨a, b, rfl, rfl, h.symm⟩
  | a :: as, b :: bs, i + 1, d, h => by
    have h : (zipD as bs)[i]? = some d := by simpa [zipD] using h
    obtain ⟨x, y, h1, h2, h3⟩ := zipD_get h
    exact ⟨x, y, by simpa using h1, by simpa using h2, h3⟩
theorem zipD_length : ∀ (as bs : List D), (zipD as bs).length = min as.length bs.length
  | [], bs => by simp [zipD]
  | a :: as, [] => by simp [zipD]
  | a :: as, b :: bs => by simp [zipD, zipD_length as bs, Nat.add_min_add_right]
def isTupD : D → Bool
  | .tup _ => true
  | _ => false
/-- zip of two lists, of two tuples -/
def diZip (t u : DE) : DI := fun env k x => t env (fun d e => u e (fun d2 e2 => ∃ as bs, ((d = .lst as ∧ d2 = .lst bs) ∨ (d = .tup as ∧ d2 = .tup bs)) ∧ k (zipD as bs) e2) x) x
def enumD (ds : List D) : List D := (List.range ds.length).map fun i => .tup [.int (i : Nat), ds.getD i .non]
def diEnum (t : DE) : DI := fun env k x => t env (fun d e => ∃ ds, d = .lst ds ∧ k (enumD ds) e) x
def diRev (t : DE) : DI := fun env k x => t env (fun d e => ∃ ds, d = .lst ds ∧ k ds.reverse e) x

section
variable {K : PySem.W.Frag} {W : HW} {Av : AS} {H : Hp}
theorem itok_list {ds : List D} {a : Addr} (h : Rep K Av H (.lst ds) (.ref a)) : ItOk K Av H (Itl K a) ds := by
  intro i H' Av' hk ha av
  obtain ⟨b, vs, e, n, hb, r⟩ := Rep.mono hk ha _ _ h
  cases e
  refine ⟨fun d hd => ?_, fun hl => ⟨vs, SqL.of hb, by rw [r.length]; exact hl⟩⟩
  obtain ⟨v, hv, rv⟩ := r.get hd
  refine ⟨⟨vs, v, SqL.of hb, hv⟩, fun x H2 hy => ?_⟩
  obtain ⟨rfl, hy⟩ := hy
  have := hy vs (SqL.of hb)
  rw [hv] at this; cases this
  exact ⟨Same.refl _, rv⟩
theorem itok_tup {ds : List D} {a : Addr} (h : Rep K Av H (.tup ds) (.ref a)) : ItOk K Av H (Itt K a) ds := by
  intro i H' Av' hk ha av
  obtain ⟨b, vs, e, n, hb, r⟩ := Rep.mono hk ha _ _ h
  cases e
  refine ⟨fun d hd => ?_, fun hl => ⟨vs, SqT.of hb, by rw [r.length]; exact hl⟩⟩
  obtain ⟨v, hv, rv⟩ := r.get hd
  refine ⟨⟨vs, v, SqT.of hb, hv⟩, fun x H2 hy => ?_⟩
  obtain ⟨rfl, hy⟩ := hy
  have := hy vs (SqT.of hb)
  rw [hv] at this; cases this
  exact ⟨Same.refl _, rv⟩
theorem scr_seq {ns : List Int} {a : Addr} (h : Rep K Av H (.scr ns) (.ref a)) : SqL K H a (ns.map V.int) := by
  obtain ⟨b, e, h⟩ := h
  cases e
  rcases h with ⟨_, o, h⟩ | h
  · exact .inl (.inr ⟨o, h⟩)
  · exact .inr h
theorem itok_scr {ns : List Int} {a : Addr} (h : Rep K Av H (.scr ns) (.ref a)) : ItOk K Av H (Itl K a) (ns.map .int) := by
  intro i H' Av' hk ha av
  have hs := scr_seq (Rep.mono hk ha _ _ h)
  refine ⟨fun d hd => ?_, fun hl => ⟨_, hs, by simpa using hl⟩⟩
  rw [List.getElem?_map] at hd
  cases e : ns[i]? with
  | none => rw [e] at hd; cases hd
  | some n =>
    rw [e] at hd
    have hd : D.int n = d := Option.some.inj hd
    subst hd
    have hv : (ns.map V.int)[i]? = some (.int n) := by rw [List.getElem?_map, e]; rfl
    refine ⟨⟨_, _, hs, hv⟩, fun x H2 hy => ?_⟩
    obtain ⟨rfl, hy⟩ := hy
    have := hy _ hs
    rw [hv] at this; cases this
    exact ⟨Same.refl _, rfl⟩
theorem itok_rng (lo hi : Int) : ItOk K Av H (Itr lo (hi - lo).toNat) (rangeL lo hi) := by
  intro i H' Av' hk ha av
  unfold rangeL
  refine ⟨fun d hd => ?_, fun hl => by rw [List.length_map, List.length_range] at hl; exact hl⟩
  rw [List.getElem?_map] at hd
  cases e : (List.range (hi - lo).toNat)[i]? with
  | none => rw [e] at hd; cases hd
  | some n =>
    rw [e] at hd
    obtain ⟨hlt, e⟩ := List.getElem?_eq_some_iff.mp e
    have hlt' : i < (hi - lo).toNat := by simpa using hlt
    have : i = n := by simpa using e
    subst this
    have hd : D.int (lo + (i : Nat)) = d := Option.some.inj hd
    subst hd
    refine ⟨hlt', fun x H2 hy => ?_⟩
    obtain ⟨rfl, rfl⟩ := hy
    exact ⟨Same.refl _, rfl⟩
theorem pair_new {Av : AS} {H : Hp} {T : Addr} {a b : D} {x y : V} (av : AvT Av H) (hT : H T = none) (ra : Rep K Av H a x) (rb : Rep K Av H b y) : Rep K Av (upd H T (.tup [x, y])) (.tup [a, b]) (.ref T) :=
  ⟨T, _, rfl, av.new hT, upd_same, .cons (Rep.mono (fun a o e _ => same_new hT a o e) (fun _ _ z => z) _ _ ra) (.one (Rep.mono (fun a o e _ => same_new hT a o e) (fun _ _ z => z) _ _ rb))⟩
theorem itok_zipL {as bs : List D} {a b : Addr} (ha : Rep K Av H (.lst as) (.ref a)) (hb : Rep K Av H (.lst bs) (.ref b)) : ItOk K Av H (Itz K a b) (zipD as bs) := by
  intro i H' Av' hk hav av
  obtain ⟨_, vs, e, _, h1, r1⟩ := Rep.mono hk hav _ _ ha
  cases e
  obtain ⟨_, ws, e, _, h2, r2⟩ := Rep.mono hk hav _ _ hb
  cases e
  refine ⟨fun d hd => ?_, fun hl => ⟨vs, ws, SqL.of h1, SqL.of h2, ?_⟩⟩
  · obtain ⟨x, y, e1, e2, rfl⟩ := zipD_get hd
    obtain ⟨v, hv, rv⟩ := r1.get e1
    obtain ⟨w, hw, rw'⟩ := r2.get e2
    refine ⟨⟨vs, ws, v, w, SqL.of h1, SqL.of h2, hv, hw⟩, fun z H2 hy => ?_⟩
    obtain ⟨T, x', y', rfl, hT, rfl, f1, f2⟩ := hy
    have q1 := f1 _ (SqL.of h1)
    have q2 := f2 _ (SqL.of h2)
    rw [hv] at q1; rw [hw] at q2
    cases q1; cases q2
    exact ⟨same_new hT, pair_new av hT rv rw'⟩
  · rw [zipD_length] at hl
    rw [r1.length, r2.length]
    omega
theorem itok_zipT {as bs : List D} {a b : Addr} (ha : Rep K Av H (.tup as) (.ref a)) (hb : Rep K Av H (.tup bs) (.ref b)) : ItOk K Av H (RZ.ItzT K a b) (zipD as bs) := by
  intro i H' Av' hk hav av
  obtain ⟨_, vs, e, _, h1, r1⟩ := Rep.mono hk hav _ _ ha
  cases e
  obtain ⟨_, ws, e, _, h2, r2⟩ := Rep.mono hk hav _ _ hb
  cases e
  refine ⟨fun d hd => ?_, fun hl => ⟨vs, ws, SqT.of h1, SqT.of h2, ?_⟩⟩
  · obtain ⟨x, y, e1, e2, rfl⟩ := zipD_get hd
    obtain ⟨v, hv, rv⟩ := r1.get e1
    obtain ⟨w, hw, rw'⟩ := r2.get e2
    refine ⟨⟨vs, ws, v, w, SqT.of h1, SqT.of h2, hv, hw⟩, fun z H2 hy => ?_⟩
    obtain ⟨T, x', y', rfl, hT, rfl, f1, f2⟩ := hy
    have q1 := f1 _ (SqT.of h1)
    have q2 := f2 _ (SqT.of h2)
    rw [hv] at q1; rw [hw] at q2
    cases q1; cases q2
    exact ⟨same_new hT, pair_new av hT rv rw'⟩
  · rw [zipD_length] at hl
    rw [r1.length, r2.length]
    omega
theorem itok_enum {ds : List D} {a : Addr} (h : Rep K Av H (.lst ds) (.ref a)) : ItOk K Av H (Ite K a) (enumD ds) := by
  intro i H' Av' hk ha av
  obtain ⟨b, vs, e, n, hb, r⟩ := Rep.mono hk ha _ _ h
  cases e
  unfold enumD
  refine ⟨fun d hd => ?_, fun hl => ⟨vs, SqL.of hb, by rw [r.length]; simpa using hl⟩⟩
  rw [List.getElem?_map] at hd
  cases e : (List.range ds.length)[i]? with
  | none => rw [e] at hd; cases hd
  | some n =>
    rw [e] at hd
    obtain ⟨hlt, e⟩ := List.getElem?_eq_some_iff.mp e
    have hlt : i < ds.length := by simpa using hlt
    have : i = n := by simpa using e
    subst this
    have hd : D.tup [.int (i : Nat), ds.getD i .non] = d := Option.some.inj hd
    subst hd
    obtain ⟨v, hv, rv⟩ := r.get (List.getElem?_eq_getElem hlt)
    have eg : ds.getD i .non = ds[i] := by rw [List.getD_eq_getElem?_getD, List.getElem?_eq_getElem hlt]; rfl
    rw [eg]
    refine ⟨⟨vs, v, SqL.of hb, hv⟩, fun x H2 hy => ?_⟩
    obtain ⟨T, y, rfl, hT, rfl, f⟩ := hy
    have q := f _ (SqL.of hb)
    rw [hv] at q; cases q
    exact ⟨same_new hT, pair_new av hT rfl rv⟩
theorem itok_rev {ds : List D} {a : Addr} {n : Nat} (h : Rep K Av H (.lst ds) (.ref a)) (hn : n = ds.length) : ItOk K Av H (Itv K a n) ds.reverse := by
  subst hn
  intro i H' Av' hk ha av
  obtain ⟨b, vs, e, n, hb, r⟩ := Rep.mono hk ha _ _ h
  cases e
  refine ⟨fun d hd => ?_, fun hl => by rw [List.length_reverse] at hl; exact hl⟩
  have hlt : i < ds.length := by
    have := (List.getElem?_eq_some_iff.mp hd).1
    simpa using this
  rw [List.getElem?_reverse hlt] at hd
  obtain ⟨v, hv, rv⟩ := r.get hd
  refine ⟨⟨hlt, vs, v, SqL.of hb, hv⟩, fun x H2 hy => ?_⟩
  obtain ⟨rfl, hy⟩ := hy
  have := hy vs (SqL.of hb)
  rw [hv] at this; cases this
  exact ⟨Same.refl _, rv⟩
end

section
variable {X : Cx} {W : HW} {tg e e2 : Expr} {pos p : Pos} {t u : DE}
/-- a list or a tuple, walked -/
def iSeq (K : PySem.W.Frag) (tl : TE) : TI := fun σ H R => tl σ H fun x H1 => ∃ a, x = .ref a ∧ (((∃ xs, SqL K H1 a xs) ∧ R (Itl K a) H1) ∨ ((∃ xs, SqT K H1 a xs) ∧ R (Itt K a) H1))
theorem pi_seq {l : Expr} {tl : TE} (hl : PE X l tl) : PI X tg l (iSeq X.K tl) := by
  refine ⟨fun pins s σ H R I h => ?_⟩
  refine thn (hl.run pins s σ H _ I h) fun v s1 ⟨x, H1, I1, r1, q1⟩ => ?_
  obtain ⟨a, e, q1⟩ := q1
  subst e
  cases r1
  rcases q1 with ⟨⟨xs, hq⟩, q⟩ | ⟨⟨xs, hq⟩, q⟩
  · obtain ⟨its, rv, p, hz⟩ := I1.list hq
    refine wpAny_pyIter_list p.isList ?_
    refine ⟨s1.heap.objs.size, [s1.heap.objs.size], _, _, H1, rfl, I1.kept (t' := s1.toks) fun b o e => Heap.get?_push_of_some _ e, turn_list a _, ⟨_, Heap.get?_push_size _ rfl, rfl, rfl⟩, fun b hb => ?_, q⟩
    have e : b = s1.heap.objs.size := by simpa using hb
    subst e
    exact I1.fpOk (Nat.le_refl _) (I1.hok.fresh (Nat.le_refl _))
  · obtain ⟨its, rv, p, hz⟩ := I1.tuple hq
    refine wpAny_pyIter_tuple (show s1.heap.IsTuple a its.toArray from p) ?_
    refine ⟨s1.heap.objs.size, [s1.heap.objs.size], _, _, H1, rfl, I1.kept (t' := s1.toks) fun b o e => Heap.get?_push_of_some _ e, turn_tuple a _, ⟨_, Heap.get?_push_size _ rfl, rfl, rfl⟩, fun b hb => ?_, q⟩
    have e : b = s1.heap.objs.size := by simpa using hb
    subst e
    exact I1.fpOk (Nat.le_refl _) (I1.hok.fresh (Nat.le_refl _))
theorem di_seq (h : PE X e (up X.K W t)) : PI X tg e (upI X.K W (diSeq t)) := by
  refine pi_conv (pi_seq h) fun σ H Q h => ?_
  obtain ⟨C, M, env, k, x, R, h, hk, hx⟩ := h
  refine ⟨C, M, env, _, x, R, h, fun a e1 v H1 M1 h1 R1 k1 g1 r1 => ?_, hx⟩
  obtain ⟨ds, hd, kd⟩ := h1
  cases a with
  | lst as =>
    cases hd
    obtain ⟨a, vs, rfl, n, hb, r⟩ := id r1
    exact ⟨a, rfl, .inl ⟨⟨vs, SqL.of hb⟩, hk _ _ _ H1 M1 kd R1 k1 g1 (itok_list r1)⟩⟩
  | tup as =>
    cases hd
    obtain ⟨a, vs, rfl, n, hb, r⟩ := id r1
    exact ⟨a, rfl, .inr ⟨⟨vs, SqT.of hb⟩, hk _ _ _ H1 M1 kd R1 k1 g1 (itok_tup r1)⟩⟩
  | scr ns =>
    cases hd
    obtain ⟨a, rfl, hb⟩ := id r1
    exact ⟨a, rfl, .inl ⟨⟨_, scr_seq r1⟩, hk _ _ _ H1 M1 kd R1 k1 g1 (itok_scr r1)⟩⟩
  | non | bl _ | int _ | str _ | dI _ | dT _ | obj _ _ => cases hd
theorem di_rng1 (hg : Gl X "range") (hm : X.mg "range" = none) (h : PE X e (up X.K W t)) (hs : starEach [e] X.env = [(false, eval e X.env)] := by rfl) : PI X tg (.Call (.Name "range" p) [e] [] pos) (upI X.K W (diRng1 t)) := by
  refine pi_conv (pi_range1 hg hm (pa_cons h pa_nil hs) hs) fun σ H Q h => ?_
  obtain ⟨C, M, env, k, x, R, h, hk, hx⟩ := h
  refine ⟨C, M, env, _, x, R, h, fun a e1 v H1 M1 h1 R1 k1 g1 r1 => ?_, hx⟩
  obtain ⟨n, rfl, hn, kd⟩ := h1
  have r1 : v = .int n := r1
  subst r1
  refine ⟨n, rfl, by omega, by omega, ?_⟩
  have := itok_rng (K := X.K) (Av := fun a => C.G a ∨ M1 a) (H := H1) 0 n
  rw [Int.sub_zero] at this
  exact hk _ _ _ H1 M1 kd R1 k1 g1 this
theorem di_rng2 (hg : Gl X "range") (hm : X.mg "range" = none) (h : PE X e (up X.K W t)) (h2 : PE X e2 (up X.K W u)) (hs : starEach [e, e2] X.env = (false, eval e X.env) :: starEach [e2] X.env := by rfl) (hs1 : starEach [e, e2] X.env = [(false, eval e X.env), (false, eval e2 X.env)] := by rfl) (hs2 : starEach [e2] X.env = [(false, eval e2 X.env)] := by rfl) : PI X tg (.Call (.Name "range" p) [e, e2] [] pos) (upI X.K W (diRng2 t u)) := by
  refine pi_conv (pi_range2 hg hm (pa_cons h (pa_cons h2 pa_nil hs2) hs) hs1 hs2) fun σ H Q h => ?_
  obtain ⟨C, M, env, k, x, R, h, hk, hx⟩ := h
  refine ⟨C, M, env, _, x, R, h, fun a e1 v H1 M1 h1 R1 k1 g1 r1 => ?_, hx⟩
  refine ⟨C, M1, e1, _, x, R1, h1, fun b e2 v2 H2 M2 h2 R2 k2 g2 r2 => ?_, fun e env' H' M' xe R' k' g' => hx e env' H' M' xe R' (k1.trans g1 k') (Grow.trans k1 g1 g')⟩
  obtain ⟨i, j, rfl, rfl, b1, kd⟩ := h2
  have r1 : v = .int i := r1
  have r2 : v2 = .int j := r2
  subst r1 r2
  exact ⟨i, j, rfl, by omega, hk _ _ _ H2 M2 kd R2 (k1.trans g1 k2) (Grow.trans k1 g1 g2) (itok_rng i j)⟩
theorem di_zip {elts : List Expr} {kk : Nat} {tpos : Pos} (hg : Gl X "zip") (hm : X.mg "zip" = none) (h : PE X e (up X.K W t)) (h2 : PE X e2 (up X.K W u)) (hs : starEach [e, e2] X.env = (false, eval e X.env) :: starEach [e2] X.env := by rfl) (hs2 : starEach [e2] X.env = (false, eval e2 X.env) :: starEach [] X.env := by rfl) (hpl : (backTo pos (starEach [e2] X.env)).any (·.1) = false := by rfl) :
    PI X (.Tuple elts kk tpos) (.Call (.Name "zip" p) [e, e2] [] pos) (upI X.K W (diZip t u)) := by
  refine pi_conv (RZ.pi_zipA hg hm (pa_cons h (pa_cons h2 pa_nil hs2) hs) hs hpl) fun σ H Q h => ?_
  obtain ⟨C, M, env, k, x, R, h, hk, hx⟩ := h
  refine ⟨C, M, env, _, x, R, h, fun a e1 v H1 M1 h1 R1 k1 g1 r1 => ?_, hx⟩
  refine ⟨C, M1, e1, _, x, R1, h1, fun b e2 v2 H2 M2 h2 R2 k2 g2 r2 => ?_, fun e env' H' M' xe R' k' g' => hx e env' H' M' xe R' (k1.trans g1 k') (Grow.trans k1 g1 g')⟩
  obtain ⟨as, bs, q, kd⟩ := h2
  have r1' := k2.rep g2 r1
  rcases q with ⟨rfl, rfl⟩ | ⟨rfl, rfl⟩
  · obtain ⟨a, vs, rfl, n, hb, r⟩ := id r1'
    obtain ⟨a2, vs2, rfl, n2, hb2, r2'⟩ := id r2
    exact ⟨a, a2, vs, vs2, rfl, .inl ⟨SqL.of hb, SqL.of hb2, hk _ _ _ H2 M2 kd R2 (k1.trans g1 k2) (Grow.trans k1 g1 g2) (itok_zipL r1' r2)⟩⟩
  · obtain ⟨a, vs, rfl, n, hb, r⟩ := id r1'
    obtain ⟨a2, vs2, rfl, n2, hb2, r2'⟩ := id r2
    exact ⟨a, a2, vs, vs2, rfl, .inr ⟨SqT.of hb, SqT.of hb2, hk _ _ _ H2 M2 kd R2 (k1.trans g1 k2) (Grow.trans k1 g1 g2) (itok_zipT r1' r2)⟩⟩
theorem di_enum {elts : List Expr} {kk : Nat} {tpos : Pos} (hg : Gl X "enumerate") (hm : X.mg "enumerate" = none) (h : PE X e (up X.K W t)) (hs : starEach [e] X.env = [(false, eval e X.env)] := by rfl) :
    PI X (.Tuple elts kk tpos) (.Call (.Name "enumerate" p) [e] [] pos) (upI X.K W (diEnum t)) := by
  refine pi_conv (pi_enum hg hm (pa_cons h pa_nil hs) hs) fun σ H Q h => ?_
  obtain ⟨C, M, env, k, x, R, h, hk, hx⟩ := h
  refine ⟨C, M, env, _, x, R, h, fun a e1 v H1 M1 h1 R1 k1 g1 r1 => ?_, hx⟩
  obtain ⟨ds, rfl, kd⟩ := h1
  obtain ⟨a, vs, rfl, n, hb, r⟩ := id r1
  exact ⟨a, vs, rfl, SqL.of hb, hk _ _ _ H1 M1 kd R1 k1 g1 (itok_enum r1)⟩
theorem di_rev (hg : Gl X "reversed") (hm : X.mg "reversed" = none) (h : PE X e (up X.K W t)) (hs : starEach [e] X.env = [(false, eval e X.env)] := by rfl) : PI X tg (.Call (.Name "reversed" p) [e] [] pos) (upI X.K W (diRev t)) := by
  refine pi_conv (pi_reversed hg hm (pa_cons h pa_nil hs) hs) fun σ H Q h => ?_
  obtain ⟨C, M, env, k, x, R, h, hk, hx⟩ := h
  refine ⟨C, M, env, _, x, R, h, fun a e1 v H1 M1 h1 R1 k1 g1 r1 => ?_, hx⟩
  obtain ⟨ds, rfl, kd⟩ := h1
  obtain ⟨a, vs, rfl, n, hb, r⟩ := id r1
  exact ⟨a, vs, rfl, SqL.of hb, hk _ _ _ H1 M1 kd R1 k1 g1 (itok_rev r1 r.length)⟩
end

/-! ### targets -/
abbrev DG := D → Env → (Env → Prop) → Prop
def dgName (i : Nat) : DG := fun d env q => q (env.set i (.frz d))
def setAll : Env → List Nat → List D → Env
  | env, i :: is, d :: ds => setAll (env.set i (.frz d)) is ds
  | env, _, _ => env
def dgTup (is : List Nat) : DG := fun d env q => ∃ ds, d = .tup ds ∧ ds.length = is.length ∧ q (setAll env is ds)
/-- a target; only the slots vs are stored -/
def upG (K : PySem.W.Frag) (vs : List Nat) (t : DG) : TG := fun v σ H Q => ∃ (C : Ctx) (M : AS) (env : Env) (d : D) (q : Env → Prop), Rel K C M env σ H ∧ Rep K (fun a => C.G a ∨ M a) H d v ∧ t d env q ∧
  ∀ env' σ', q env' → Rel K C M env' σ' H → σ'.length = σ.length → (∀ j, j ∉ vs → σ'[j]? = σ[j]?) → Q σ' H
def upGs (K : PySem.W.Frag) (vs is : List Nat) : TGs := fun us σ H Q => ∃ (C : Ctx) (M : AS) (env : Env) (ds : List D) (q : Env → Prop), Rel K C M env σ H ∧ Reps K (fun a => C.G a ∨ M a) H ds us ∧ ds.length = is.length ∧ q (setAll env is ds) ∧
  ∀ env' σ', q env' → Rel K C M env' σ' H → σ'.length = σ.length → (∀ j, j ∉ vs → σ'[j]? = σ[j]?) → Q σ' H
section
variable {X : Cx} {pos : Pos}
theorem dg_name {i : Nat} {x : Str} {vs : List Nat} (hN : X.N.Nodup) (hi : X.N[i]? = some x) (hx : Loc X.env.scope x) (hv : i ∈ vs) (hf : X.fn x = true ∨ X.env.scope.names.lookup x = some .local := by first | exact .inl rfl | exact .inr rfl | assumption) : PG X (.Name x pos) (upG X.K vs (dgName i)) := by
  refine ⟨fun pins s σ H v u Q I r h => ?_⟩
  refine (pg_name hN hi hx hf).run pins s σ H v u Q I r ?_
  obtain ⟨C, M, env, d, q, R, rd, h, hq⟩ := h
  exact hq _ _ h (R.storeF rd) (by rw [List.length_set]) fun j hj => List.getElem?_set_ne fun (z : i = j) => hj (z ▸ hv)
theorem dgs_nil {vs : List Nat} : PGs X [] (upGs X.K vs []) := by
  refine ⟨fun pins s σ H us vals Q I r h => ?_⟩
  refine pgs_nil.run pins s σ H us vals Q I r ?_
  obtain ⟨C, M, env, ds, q, R, rd, hl, h, hq⟩ := h
  cases ds with
  | nil => exact ⟨rd, hq _ _ h R rfl fun _ _ => rfl⟩
  | cons d ds => cases hl
theorem dgs_cons {i : Nat} {x : Str} {vs is : List Nat} {es : List Expr} (hN : X.N.Nodup) (hi : X.N[i]? = some x) (hx : Loc X.env.scope x) (hv : i ∈ vs) (h2 : PGs X es (upGs X.K vs is)) (hf : X.fn x = true ∨ X.env.scope.names.lookup x = some .local := by first | exact .inl rfl | exact .inr rfl | assumption)
    (hs : (assignEach (.Name x pos :: es) X.env).map (·.2) = assign (.Name x pos) X.env :: (assignEach es X.env).map (·.2) := by rfl) : PGs X (.Name x pos :: es) (upGs X.K vs (i :: is)) := by
  refine ⟨fun pins s σ H us vals Q I r h => ?_⟩
  refine (pgs_cons (dg_name (pos := pos) (vs := vs) hN hi hx hv hf) h2 hs).run pins s σ H us vals Q I r ?_
  obtain ⟨C, M, env, ds, q, R, rd, hl, h, hq⟩ := h
  cases ds with
  | nil => cases hl
  | cons d ds =>
    obtain ⟨v, vr, rfl, rd1, rd2⟩ := rd
    refine ⟨v, vr, rfl, C, M, env, d, _, R, rd1, rfl, fun env' σ' hq1 R1 l1 s1 => ?_⟩
    subst hq1
    exact ⟨C, M, _, ds, q, R1, rd2, by simpa using hl, h, fun env2 σ2 h2 R2 l2 s2 => hq env2 σ2 h2 R2 (l2.trans l1) fun j hj => (s2 j hj).trans (s1 j hj)⟩
theorem dg_tup {es : List Expr} {k n : Nat} {vs is : List Nat} (hc : X.calm = true) (h : PGs X es (upGs X.K vs is)) (hl : is.length = n) (hn : (assignEach es X.env).length = n := by rfl) (hst : (assignEach es X.env).findIdx? (·.1) = none := by rfl) : PG X (.Tuple es k pos) (upG X.K vs (dgTup is)) := by
  refine ⟨fun pins s σ H v u Q I r h' => ?_⟩
  refine (pg_tup hc h hn hst).run pins s σ H v u Q I r ?_
  obtain ⟨C, M, env, d, q, R, rd, ⟨ds, rfl, hds, h'⟩, hq⟩ := h'
  obtain ⟨a, ws, e, na, ha, ra⟩ := rd
  exact ⟨a, ws, e, SqT.of ha, by rw [ra.length, hds, hl], C, M, env, ds, q, R, ra, hds, h', hq⟩
end

/-! ### for -/
def sFor (src : DI) (tg : DG) (tb : DS) : DS := fun k env => src env (fun items e => ∃ I : Nat → Env → Prop, I 0 e ∧
  (∀ i d env, items[i]? = some d → I i env → tg d env (fun e2 => tb { k with nx := I (i + 1), ct := I (i + 1), bk := k.nx } e2)) ∧ (∀ env, I items.length env → k.nx env)) k.ex
section
variable {X : Cx} {W : HW} {fr : Bool} {tg iter : Expr} {body : List Stmt} {pos : Pos} {src : DI} {g : DG} {vs : List Nat} {tb : DS}
theorem sim_for {K : PySem.W.Frag} {D : Ends} {σ : L2.St} {H : Hp} (h : upS K W fr (sFor src g tb) D σ H) : tFor (upI K W src) (upG K vs g) (upS K W fr tb) D σ H := by
  obtain ⟨C, M, env, k, R, h, hn, hr, hx, hbk, hct⟩ := h
  refine ⟨C, M, env, _, _, R, h, fun items e1 J H1 M1 h1 R1 k1 g1 ok => ?_, fun e env' H' M' xe R' k' g' => hx e env' σ H' M' xe R' k' g'⟩
  obtain ⟨I, i0, turn, fin⟩ := h1
  refine ⟨fun i m σ2 H2 => m = items.length - i ∧ i ≤ items.length ∧ ∃ M2 env2, Rel K C M2 env2 σ2 H2 ∧ Keep M1 H1 H2 ∧ Grow M1 H1 M2 ∧ I i env2, ⟨_, rfl, Nat.zero_le _, M1, e1, R1, .refl _ _, .refl _ _, i0⟩, ?_⟩
  rintro i m σ2 H2 ⟨rfl, hi, M2, env2, R2, k2, g2, i2⟩
  obtain ⟨go, stop⟩ := ok i H2 (fun a => C.G a ∨ M2 a) (fun a o e n => k2.kp a o e fun z => n (.inr z)) (fun a n z => z.elim .inl fun z => (g2 a z).elim .inr fun q => absurd q n) R2.avt
  by_cases hlt : i < items.length
  · obtain ⟨go, yl⟩ := go _ (List.getElem?_eq_getElem hlt)
    refine .inr ⟨go, fun σ' H' => ∃ M' env', Rel K C M' env' σ' H' ∧ Keep M1 H1 H' ∧ Grow M1 H1 M' ∧ I (i + 1) env', fun σ' H' ⟨M', env', q⟩ => ⟨_, by omega, rfl, hlt, M', env', q⟩, fun x H3 hy => ?_⟩
    obtain ⟨sm, rx⟩ := yl x H3 hy
    have k3 : Keep M1 H1 H3 := k2.trans g2 (.same sm)
    refine ⟨C, M2, env2, _, _, R2.same sm, rx, turn i _ env2 (List.getElem?_eq_getElem hlt) i2, fun env4 σ4 h4 R4 _ _ => ?_⟩
    have k4 : Keep M H H3 := k1.trans g1 k3
    have g4 : Grow M H M2 := Grow.trans k1 g1 g2
    refine ⟨C, M2, env4, _, R4, h4, fun env' σ' H' M' q R' k' g' => ⟨M', env', R', k3.trans g2 k', Grow.trans k3 g2 g', q⟩, fun d e v s h m q r kk gg z => hr d e v s h m q r (k4.trans g4 kk) (Grow.trans k4 g4 gg) z,
      fun y e s h m q r kk gg => hx y e s h m q r (k4.trans g4 kk) (Grow.trans k4 g4 gg), fun e s h m q r kk gg => hn e s h m q r (k4.trans g4 kk) (Grow.trans k4 g4 gg), fun env' σ' H' M' q R' k' g' => ⟨M', env', R', k3.trans g2 k', Grow.trans k3 g2 g', q⟩⟩
  · have e : i = items.length := by omega
    subst e
    exact .inl ⟨stop (Nat.le_refl _), hn env2 σ2 H2 M2 (fin env2 i2) R2 (k1.trans g1 k2) (Grow.trans k1 g1 g2)⟩
theorem ds_for (hp : PassesOwn (model X.prog X.w) X.A X.env X.xe) (hc : X.calm = true) (hi : PI X tg iter (upI X.K W src)) (hg : PG X tg (upG X.K vs g)) (hb : PSs X body (upS X.K W fr tb))
    (hs : ∀ x, foldedSetIterable iter X.env x = pure x := by intro _; rfl) : PS X (.For tg iter body [] pos) (upS X.K W fr (sFor src g tb)) :=
  ps_conv (ps_for hp hc hi hg hb hs) fun _ _ _ => sim_for
end

/-! ### a dict walked: locked meanwhile -/
section
variable {K : PySem.W.Frag} {Av : AS} {H : Hp} {a : Addr} {u : HO} {od : Obj}
/-- a dict locked, or unlocked: what leans on it still stands -/
theorem lock_rep (hT : (∃ ws, u = .dT ws) ∨ ∃ ws, u = .dK ws) {H' : Hp} (hk : ∀ b, b ≠ a → H' b = H b) (h1 : Rd H a u) (h2 : Rd H' a u) : ∀ (d : D) (v : V), Rep K Av H d v → Rep K Av H' d v := by
  have hne : ∀ b o, H b = some o → (∀ od, o ≠ .frz od u) → o ≠ u → H' b = some o := fun b o e n1 n2 => by
    rw [hk b fun z => ?_]
    · exact e
    · subst z
      rcases h1 with h1 | ⟨o1, h1⟩
      · rw [h1] at e; cases e; exact n2 rfl
      · rw [h1] at e; cases e; exact n1 _ rfl
  have key : ∀ (n : Nat) (d : D) (v : V), sizeOf d < n → Rep K Av H d v → Rep K Av H' d v := by
    intro n
    induction n with
    | zero => intro d v h; exact absurd h (Nat.not_lt_zero _)
    | succ n ih =>
      intro d v hs h
      have all : ∀ (ds : List D) (vs : List V), (∀ d ∈ ds, sizeOf d < n) → Reps K Av H ds vs → Reps K Av H' ds vs := by
        intro ds
        induction ds with
        | nil => intro vs _ h; exact h
        | cons d ds ih2 =>
          intro vs hs ⟨v, r, e, q1, q2⟩
          exact ⟨v, r, e, ih d v (hs d List.mem_cons_self) q1, ih2 r (fun d hd => hs d (List.mem_cons_of_mem _ hd)) q2⟩
      cases d with
      | non | bl _ | int _ | str _ => exact h
      | obj _ _ => exact h
      | tup ds =>
        obtain ⟨b, vs, e, nb, hb, r⟩ := h
        refine ⟨b, vs, e, nb, hne b _ hb (fun _ z => nomatch z) fun z => ?_, all ds vs (fun d hd => ?_) r⟩
        · rcases hT with ⟨ws, rfl⟩ | ⟨ws, rfl⟩ <;> cases z
        · have := List.sizeOf_lt_of_mem hd
          simp at hs; omega
      | lst ds =>
        obtain ⟨b, vs, e, nb, hb, r⟩ := h
        refine ⟨b, vs, e, nb, hne b _ hb (fun _ z => nomatch z) fun z => ?_, all ds vs (fun d hd => ?_) r⟩
        · rcases hT with ⟨ws, rfl⟩ | ⟨ws, rfl⟩ <;> cases z
        · have := List.sizeOf_lt_of_mem hd
          simp at hs; omega
      | scr ns =>
        obtain ⟨b, e, q⟩ := h
        refine ⟨b, e, q.elim (fun ⟨nb, o, hb⟩ => .inl ⟨nb, o, hne b _ hb (fun _ z => ?_) fun z => ?_⟩) .inr⟩
        · rcases hT with ⟨ws, rfl⟩ | ⟨ws, rfl⟩ <;> cases z
        · rcases hT with ⟨ws, rfl⟩ | ⟨ws, rfl⟩ <;> cases z
      | dI kvs =>
        obtain ⟨b, ws, e, nb, hb, r⟩ := h
        refine ⟨b, ws, e, nb, ?_, ?_⟩
        · by_cases z : b = a
          · subst z
            have : u = .dK ws := by
              rcases h1 with h1 | ⟨o1, h1⟩ <;> rcases hb with hb | ⟨o2, hb⟩ <;> (rw [h1] at hb; cases hb; first | rfl | skip)
              · rcases hT with ⟨ws', z⟩ | ⟨ws', z⟩ <;> cases z
            rw [← this]; exact h2
          · rcases hb with hb | ⟨o2, hb⟩
            · exact .inl (by rw [hk b z]; exact hb)
            · exact .inr ⟨o2, by rw [hk b z]; exact hb⟩
        · have : ∀ (kvs : List (Int × D)) (ws : List (Key × V)), (∀ p ∈ kvs, sizeOf p.2 < n) → RepI K Av H kvs ws → RepI K Av H' kvs ws := by
            intro kvs
            induction kvs with
            | nil => intro vs _ h; exact h
            | cons p ds ih2 =>
              obtain ⟨k, d⟩ := p
              intro vs hs ⟨v, r, e, q1, q2⟩
              exact ⟨v, r, e, ih d v (hs (k, d) List.mem_cons_self) q1, ih2 r (fun d hd => hs d (List.mem_cons_of_mem _ hd)) q2⟩
          refine this kvs ws (fun p hp => ?_) r
          have := List.sizeOf_lt_of_mem hp
          obtain ⟨k, d⟩ := p
          simp at hs this ⊢; omega
      | dT kvs =>
        obtain ⟨b, ws, e, nb, hb, r⟩ := h
        refine ⟨b, ws, e, nb, ?_, ?_⟩
        · by_cases z : b = a
          · subst z
            have : u = .dT ws := by
              rcases h1 with h1 | ⟨o1, h1⟩ <;> rcases hb with hb | ⟨o2, hb⟩ <;> (rw [h1] at hb; cases hb; first | rfl | skip)
              · rcases hT with ⟨ws', z⟩ | ⟨ws', z⟩ <;> cases z
            rw [← this]; exact h2
          · rcases hb with hb | ⟨o2, hb⟩
            · exact .inl (by rw [hk b z]; exact hb)
            · exact .inr ⟨o2, by rw [hk b z]; exact hb⟩
        · have : ∀ (kvs : List (List Int × D)) (ws : List (List Key × V)), (∀ p ∈ kvs, sizeOf p.2 < n) → RepT K Av H kvs ws → RepT K Av H' kvs ws := by
            intro kvs
            induction kvs with
            | nil => intro vs _ h; exact h
            | cons p ds ih2 =>
              obtain ⟨k, d⟩ := p
              intro vs hs ⟨v, r, e, q1, q2⟩
              exact ⟨v, r, e, ih d v (hs (k, d) List.mem_cons_self) q1, ih2 r (fun d hd => hs d (List.mem_cons_of_mem _ hd)) q2⟩
          refine this kvs ws (fun p hp => ?_) r
          have := List.sizeOf_lt_of_mem hp
          obtain ⟨k, d⟩ := p
          simp at hs this ⊢; omega
  exact fun d v h => key (sizeOf d + 1) d v (Nat.lt_succ_self _) h
end
end FX

set_option Elab.async false
set_option linter.all false
set_option maxRecDepth 100000
set_option maxHeartbeats 1000000
/-! FxE: comprehensions; dicts walked -/
namespace FX
open PySem PySem.Spec PyProof.Rows L2

def wipeE : List Nat → Env → Env
  | [], e => e
  | v :: vs, e => (wipeE vs e).set v .no
section
variable {K : PySem.W.Frag} {W : HW} {C : Ctx} {M : AS} {env : Env} {σ : L2.St} {H : Hp} {Q : VK}
/-- a slot is forgotten -/
theorem Rel.forget {i : Nat} {o : Option V} (R : Rel K C M env σ H) : Rel K C M (env.set i .no) (σ.set i o) H := by
  obtain ⟨adr, ha, hs⟩ := R.sl
  refine ⟨R.gm, R.gt, R.mm, R.bh, by rw [List.length_set, List.length_set]; exact R.len, adr, fun j l s t e1 e2 m1 m2 e => ?_, fun j s e => ?_⟩
  · rcases get_set_cases e1 with ⟨_, rfl, _⟩ | ⟨_, e1⟩
    · cases m1
    · rcases get_set_cases e2 with ⟨_, rfl, _⟩ | ⟨_, e2⟩
      · cases m2
      · exact ha j l s t e1 e2 m1 m2 e
  · rcases get_set_cases e with ⟨rfl, rfl, hl⟩ | ⟨ne, e⟩
    · exact True.intro
    · have q := hs j s e
      have hσ : (σ.set i o)[j]? = σ[j]? := List.getElem?_set_ne ne
      cases s with
      | no => exact True.intro
      | frz d => obtain ⟨v, h1, h2⟩ := q; exact ⟨v, hσ.trans h1, h2⟩
      | own d => obtain ⟨v, h1, h2⟩ := q; exact ⟨v, hσ.trans h1, h2⟩
      | par d => obtain ⟨h1, h2⟩ := q; exact ⟨hσ.trans h1, h2⟩
theorem Rel.wipe (R : Rel K C M env σ H) : ∀ vs : List Nat, Rel K C M (wipeE vs env) (L2.wipe σ vs) H
  | [] => R
  | v :: vs => (Rel.wipe R vs).forget
theorem Rel.slots {σ' : L2.St} (R : Rel K C M env σ H) (hl : σ'.length = σ.length) (h : ∀ (j : Nat) v, σ[j]? = some (some v) → σ'[j]? = some (some v)) : Rel K C M env σ' H := by
  obtain ⟨adr, ha, hs⟩ := R.sl
  refine ⟨R.gm, R.gt, R.mm, R.bh, R.len.trans hl.symm, adr, ha, fun j s e => ?_⟩
  have q := hs j s e
  cases s with
  | no => exact True.intro
  | frz d => obtain ⟨v, h1, h2⟩ := q; exact ⟨v, h j v h1, h2⟩
  | own d => obtain ⟨v, h1, h2⟩ := q; exact ⟨v, h j v h1, h2⟩
  | par d => obtain ⟨h1, h2⟩ := q; exact ⟨h j _ h1, h2⟩
theorem Rel.unwipe {vs : List Nat} (R : Rel K C M env (L2.wipe σ vs) H) : Rel K C M env σ H := R.slots (wipe_length σ vs).symm fun j v e => (wipe_some e).1
/-- a thing that is not ours to touch, touched by its owner -/
theorem Rel.touch {p : Addr} {o : HO} (R : Rel K C M env σ H) (g : C.G p) (mo : Mut (some o)) : Rel K C M env σ (upd H p o) := by
  have ne : ∀ a, M a → a ≠ p := fun a m e => R.gm p g (e ▸ m)
  have kp : ∀ a o', H a = some o' → ¬ (C.G a ∨ M a) → (upd H p o) a = some o' := fun a o' e n => by rw [upd_ne fun (z : a = p) => n (.inl (z ▸ g))]; exact e
  have th : ∀ a, H a ≠ none → (upd H p o) a ≠ none := fun a h => by
    by_cases e : a = p
    · subst e; rw [upd_same]; simp
    · rw [upd_ne e]; exact h
  obtain ⟨adr, ha, hs⟩ := R.sl
  refine ⟨R.gm, fun a g' => ?_, fun a m => by rw [upd_ne (ne a m)]; exact R.mm a m, fun a b => th a (R.bh a b), R.len, adr, ha, fun j s e => ?_⟩
  · by_cases e : a = p
    · subst e; rw [upd_same]; exact mo
    · rw [upd_ne e]; exact R.gt a g'
  · have q := hs j s e
    cases s with
    | no => exact True.intro
    | frz d => obtain ⟨v, h1, h2⟩ := q; exact ⟨v, h1, Rep.mono kp (fun _ _ z => z) d v h2⟩
    | own d => obtain ⟨v, h1, h2, h3, h4⟩ := q; exact ⟨v, h1, h2, h3, h4.mono (fun o' e => by rw [upd_ne (ne _ h2)]; exact e) kp fun _ _ z => z⟩
    | par d => obtain ⟨h1, h2, h4⟩ := q; exact ⟨h1, h2, h4.mono (fun o' e => by rw [upd_ne (ne _ h2)]; exact e) kp fun _ _ z => z⟩
theorem wipe_get {σ : L2.St} {i : Nat} : ∀ {vs : List Nat}, i ∉ vs → (L2.wipe σ vs)[i]? = σ[i]?
  | [], _ => rfl
  | v :: vs, h => by
    unfold L2.wipe
    rw [List.getElem?_set_ne fun (z : v = i) => h (by simp [z])]
    exact wipe_get fun z => h (List.mem_cons_of_mem _ z)
theorem wipe_in {σ : L2.St} {i : Nat} : ∀ {vs : List Nat}, i ∈ vs → i < σ.length → (L2.wipe σ vs)[i]? = some none
  | v :: vs, h, hl => by
    unfold L2.wipe
    by_cases e : v = i
    · subst e; rw [List.getElem?_set_self (by rw [wipe_length]; exact hl)]
    · rw [List.getElem?_set_ne e]
      exact wipe_in (by simpa [Ne.symm e] using h) hl
theorem wipe_ext {σ σ' : L2.St} {vs : List Nat} (hl : σ'.length = σ.length) (h : ∀ j, j ∉ vs → σ'[j]? = σ[j]?) : L2.wipe σ' vs = L2.wipe σ vs := by
  apply List.ext_getElem?
  intro j
  by_cases hj : j ∈ vs
  · by_cases hjl : j < σ.length
    · rw [wipe_in hj hjl, wipe_in hj (by rw [hl]; exact hjl)]
    · rw [List.getElem?_eq_none (by rw [wipe_length, hl]; omega), List.getElem?_eq_none (by rw [wipe_length]; omega)]
  · rw [wipe_get hj, wipe_get hj, h j hj]
theorem wipe_wipe {σ : L2.St} {vs : List Nat} : L2.wipe (L2.wipe σ vs) vs = L2.wipe σ vs := wipe_ext (wipe_length _ _) fun j hj => wipe_get hj
end

def fls : XW := fun _ _ => False
/-- [te for g in src if tt]; the slots vs are its own -/
def dLc (src : DI) (g : DG) (tt : DT) (te : DE) (vs : List Nat) : DE := fun env k x => src env (fun items e => items.length ≤ 1000000 ∧ ∃ I : Nat → List D → Env → Prop, I 0 [] (wipeE vs e) ∧
  (∀ i d acc env, items[i]? = some d → I i acc env → g d env (fun e2 => tt e2 (fun b e3 => if b = true then te e3 (fun y e4 => I (i + 1) (acc ++ [y]) (wipeE vs e4)) fls else I (i + 1) acc (wipeE vs e3)) fls)) ∧
  (∀ acc env, I items.length acc env → k (.lst acc) env)) x
def dtYes : DT := fun env k _ => k true env
def dLc2 (src : DI) (g : DG) (tt : DT) (src1 : DI) (g1 : DG) (tt1 : DT) (te : DE) (vs vs1 : List Nat) : DE := fun env k x => src env (fun items e => ∃ I : Nat → List D → Env → Prop, I 0 [] (wipeE vs e) ∧
  (∀ i d acc env, items[i]? = some d → I i acc env → g d env (fun e2 => tt e2 (fun b e3 => if b = true then
      src1 e3 (fun items1 e4 => ∃ I1 : Nat → List D → Env → Prop, I1 0 acc (wipeE vs1 e4) ∧
        (∀ j d acc env, items1[j]? = some d → I1 j acc env → g1 d env (fun e5 => tt1 e5 (fun b e6 => if b = true then te e6 (fun y e7 => acc.length < 16777216 ∧ I1 (j + 1) (acc ++ [y]) (wipeE vs1 e7)) fls else I1 (j + 1) acc (wipeE vs1 e6)) fls)) ∧
        (∀ acc env, I1 items1.length acc env → I (i + 1) acc (wipeE vs env))) fls
    else I (i + 1) acc (wipeE vs e3)) fls)) ∧
  (∀ acc env, I items.length acc env → k (.lst acc) env)) x
abbrev W0 : HW := fun _ _ => False
section
variable {K : PySem.W.Frag} {W : HW} {C : Ctx} {M : AS} {env : Env} {σ : L2.St} {H : Hp} {Q : VK} {src src1 : DI} {g g1 : DG} {tt tt1 : DT} {te : DE} {vs vs1 : List Nat}
/-- a list that is being made, at L -/
structure Making (K : PySem.W.Frag) (C : Ctx) (M1 : AS) (H1 : Hp) (L : Addr) (M2 : AS) (env : Env) (σ : L2.St) (H2 : Hp) (acc : List FX.D) : Prop where
  rel : Rel K (C.add L) M2 env σ H2
  kp : Keep M1 H1 H2
  gr : Grow M1 H1 M2
  li : ∃ ws, H2 L = some (.lst ws) ∧ Reps K (fun a => (C.add L).G a ∨ M2 a) H2 acc ws
theorem Making.grow {M1 M2 M3 : AS} {H1 H2 H3 : Hp} {L : Addr} {acc : List FX.D} {env2 : Env} {σ2 : L2.St} (m : Making K C M1 H1 L M2 env σ H2 acc) (R : Rel K (C.add L) M3 env2 σ2 H3) (k : Keep M2 H2 H3) (g : Grow M2 H2 M3) : Making K C M1 H1 L M3 env2 σ2 H3 acc := by
  obtain ⟨ws, hD, r⟩ := m.li
  exact ⟨R, m.kp.trans m.gr k, Grow.trans m.kp m.gr g, ws, k.kp L _ hD (m.rel.gm L (.inr rfl)), k.reps g r⟩
theorem Making.app {M1 M2 M3 : AS} {H1 H2 H3 : Hp} {L : Addr} {acc : List FX.D} {env2 : Env} {σ2 : L2.St} (hD1 : H1 L = none) (m : Making K C M1 H1 L M2 env σ H2 acc) (R : Rel K (C.add L) M3 env2 σ2 H3) (k : Keep M2 H2 H3) (g : Grow M2 H2 M3) {d : FX.D} {v : V} (r : Rep K (fun a => (C.add L).G a ∨ M3 a) H3 d v) :
    ∃ ws, H3 L = some (.lst ws) ∧ ws.length = acc.length ∧ Making K C M1 H1 L M3 env2 σ2 (upd H3 L (.lst (ws ++ [v]))) (acc ++ [d]) := by
  obtain ⟨ws, hD, rr⟩ := m.li
  have hD3 := k.kp L _ hD (m.rel.gm L (.inr rfl))
  have rr3 := k.reps g rr
  refine ⟨ws, hD3, rr.length, R.touch (.inr rfl) trivial, ⟨fun a o e n => ?_, fun a n => ?_⟩, Grow.trans m.kp m.gr g, ws ++ [v], upd_same, ?_⟩
  · rw [upd_ne fun z => by rw [z, hD1] at e; cases e]
    exact (m.kp.trans m.gr k).kp a o e n
  · by_cases z : a = L
    · subst z; exact absurd hD1 n
    · rw [upd_ne z]; exact (m.kp.trans m.gr k).th a n
  · have mo : ∀ a o, H3 a = some o → ¬ ((C.add L).G a ∨ M3 a) → (upd H3 L (.lst (ws ++ [v]))) a = some o := fun a o e n => by rw [upd_ne fun z => n (.inl (.inr z))]; exact e
    exact .append (Reps.mono mo (fun _ _ z => z) _ _ rr3) (.one (Rep.mono mo (fun _ _ z => z) _ _ r))
theorem Making.back {M1 M2 : AS} {H1 H2 : Hp} {L : Addr} {acc : List FX.D} {σ2 : L2.St} (m : Making K C M1 H1 L M2 env σ2 H2 acc) (hw : L2.wipe σ2 vs = L2.wipe σ vs) : Making K C M1 H1 L M2 (wipeE vs env) (L2.wipe σ vs) H2 acc :=
  ⟨hw ▸ m.rel.wipe vs, m.kp, m.gr, m.li⟩
theorem Rel.making {L : Addr} (R : Rel K C M env σ H) (hD : H L = none) : Making K C M H L M env σ (upd H L (.lst [])) [] :=
  ⟨R.add (same_new hD) hD (by rw [upd_same]; trivial), .same (same_new hD), .refl _ _, [], upd_same, rfl⟩
theorem sim_lc (h : upF K W (dLc src g tt te vs) σ H Q) : tLc (upI K W src) (upG K vs g) (upT K W0 tt) (up K W0 te) vs σ H Q := by
  obtain ⟨C, M, env, k, x, R, h, hk, hx⟩ := h
  refine ⟨C, M, env, _, x, R, h, fun items e1 J H1 M1 h1 R1 k1 g1 ok => ?_, hx⟩
  obtain ⟨hz, I, i0, turn, fin⟩ := h1
  intro L hD
  refine ⟨fun i m H2 => m = items.length - i ∧ i ≤ items.length ∧ ∃ M2 env2 acc, Making K C M1 H1 L M2 env2 (L2.wipe σ vs) H2 acc ∧ acc.length ≤ i ∧ I i acc env2, ⟨_, rfl, Nat.zero_le _, M1, _, [], (R1.making hD).back rfl, Nat.le_refl _, i0⟩, ?_⟩
  rintro i m H2 ⟨rfl, hi, M2, env2, acc, mk, hacc, i2⟩
  obtain ⟨go, stop⟩ := ok i H2 (fun a => (C.add L).G a ∨ M2 a) (fun a o e n => mk.kp.kp a o e fun z => n (.inr z))
    (fun a n z => z.elim (fun z => z.elim .inl fun z => absurd hD (z ▸ n)) fun z => (mk.gr a z).elim .inr fun q => absurd q n) mk.rel.avt
  by_cases hlt : i < items.length
  · obtain ⟨go, yl⟩ := go _ (List.getElem?_eq_getElem hlt)
    refine .inr ⟨go, fun H' => ∃ M' env' acc', Making K C M1 H1 L M' env' (L2.wipe σ vs) H' acc' ∧ acc'.length ≤ i + 1 ∧ I (i + 1) acc' env', fun H' ⟨M', env', acc', q⟩ => ⟨_, by omega, rfl, hlt, M', env', acc', q⟩, fun x H3 hy => ?_⟩
    obtain ⟨sm, rx⟩ := yl x H3 hy
    have R3 := mk.rel.same sm
    have mk3 := mk.grow R3 (.same sm) (.refl _ _)
    refine ⟨C.add L, M2, env2, _, _, R3, rx, turn i _ acc env2 (List.getElem?_eq_getElem hlt) i2, fun env4 σ4 h4 R4 l4 s4 => ?_⟩
    have hw : L2.wipe σ4 vs = L2.wipe σ vs := (wipe_ext l4 s4).trans wipe_wipe
    refine ⟨hw, C.add L, M2, env4, _, _, R4, h4, fun b e5 H5 M5 h5 R5 k5 g5 => ?_, fun _ _ _ _ z _ _ _ => z⟩
    have mk5 := mk3.grow R5 k5 g5
    cases b with
    | false =>
      rw [if_neg Bool.false_ne_true] at h5
      exact iteF ⟨M5, _, acc, mk5.back hw, by omega, h5⟩
    | true =>
      rw [if_pos rfl] at h5
      refine iteT ⟨C.add L, M5, e5, _, _, R5, h5, fun y e6 v H6 M6 h6 R6 k6 g6 r6 => ?_, fun _ _ _ _ z _ _ _ => z⟩
      obtain ⟨ws, q1, q2, q3⟩ := mk5.app hD R6 k6 g6 r6
      exact ⟨ws, q1, by rw [q2, line_eq]; omega, M6, _, _, q3.back hw, by rw [List.length_append, List.length_singleton]; omega, h6⟩
  · have e : i = items.length := by omega
    subst e
    refine .inl ⟨stop (Nat.le_refl _), ?_⟩
    obtain ⟨ws, q1, q2⟩ := mk.li
    exact hk _ env2 L (.ref L) H2 M2 (fin acc env2 i2) mk.rel.unwipe (k1.trans g1 mk.kp) (Grow.trans k1 g1 mk.gr) (by
      cases e : H L with
      | none => rfl
      | some o => exact absurd hD (k1.th L (by rw [e]; simp))) ⟨rfl, ws, q1, q2⟩
theorem sim_lc2 (h : upF K W (dLc2 src g tt src1 g1 tt1 te vs vs1) σ H Q) : tLc2 (upI K W src) (upG K vs g) (upT K W0 tt) (upI K W0 src1) (upG K vs1 g1) (upT K W0 tt1) (up K W0 te) vs vs1 σ H Q := by
  obtain ⟨C, M, env, k, x, R, h, hk, hx⟩ := h
  refine ⟨C, M, env, _, x, R, h, fun items e1 J H1 M1 h1 R1 k1 g1 ok => ?_, hx⟩
  obtain ⟨I, i0, turn, fin⟩ := h1
  intro L hD
  refine ⟨fun i m H2 => m = items.length - i ∧ i ≤ items.length ∧ ∃ M2 env2 acc, Making K C M1 H1 L M2 env2 (L2.wipe σ vs) H2 acc ∧ I i acc env2, ⟨_, rfl, Nat.zero_le _, M1, _, [], (R1.making hD).back rfl, i0⟩, ?_⟩
  rintro i m H2 ⟨rfl, hi, M2, env2, acc, mk, i2⟩
  obtain ⟨go, stop⟩ := ok i H2 (fun a => (C.add L).G a ∨ M2 a) (fun a o e n => mk.kp.kp a o e fun z => n (.inr z))
    (fun a n z => z.elim (fun z => z.elim .inl fun z => absurd hD (z ▸ n)) fun z => (mk.gr a z).elim .inr fun q => absurd q n) mk.rel.avt
  by_cases hlt : i < items.length
  · obtain ⟨go, yl⟩ := go _ (List.getElem?_eq_getElem hlt)
    refine .inr ⟨go, fun H' => ∃ M' env' acc', Making K C M1 H1 L M' env' (L2.wipe σ vs) H' acc' ∧ I (i + 1) acc' env', fun H' ⟨M', env', acc', q⟩ => ⟨_, by omega, rfl, hlt, M', env', acc', q⟩, fun x H3 hy => ?_⟩
    obtain ⟨sm, rx⟩ := yl x H3 hy
    have R3 := mk.rel.same sm
    have mk3 := mk.grow R3 (.same sm) (.refl _ _)
    refine ⟨C.add L, M2, env2, _, _, R3, rx, turn i _ acc env2 (List.getElem?_eq_getElem hlt) i2, fun env4 σ4 h4 R4 l4 s4 => ?_⟩
    have hw : L2.wipe σ4 vs = L2.wipe σ vs := (wipe_ext l4 s4).trans wipe_wipe
    refine ⟨hw, C.add L, M2, env4, _, _, R4, h4, fun b e5 H5 M5 h5 R5 k5 g5 => ?_, fun _ _ _ _ z _ _ _ => z⟩
    have mk5 := mk3.grow R5 k5 g5
    cases b with
    | false =>
      rw [if_neg Bool.false_ne_true] at h5
      exact iteF ⟨M5, _, acc, mk5.back hw, h5⟩
    | true =>
      rw [if_pos rfl] at h5
      refine iteT ⟨C.add L, M5, e5, _, _, R5, h5, fun items1 e6 J1 H6 M6 h6 R6 k6 g6 ok1 => ?_, fun _ _ _ _ z _ _ _ => z⟩
      have mk6 := mk5.grow R6 k6 g6
      obtain ⟨I1, j0, turn1, fin1⟩ := h6
      refine ⟨fun j m H7 => m = items1.length - j ∧ j ≤ items1.length ∧ ∃ M7 env7 acc7, Making K C M1 H1 L M7 env7 (L2.wipe σ4 vs1) H7 acc7 ∧ Keep (fun a => (C.add L).G a ∨ M6 a) H6 H7 ∧ Grow M6 H6 M7 ∧ I1 j acc7 env7, ⟨_, rfl, Nat.zero_le _, M6, _, acc, mk6.back rfl, .refl _ _, .refl _ _, j0⟩, ?_⟩
      rintro j m H7 ⟨rfl, hj, M7, env7, acc7, mk7, k7, g7, i7⟩
      have keepG : ∀ {H' : Hp}, Keep M7 H7 H' → Keep (fun a => (C.add L).G a ∨ M6 a) H6 H' := fun {H'} k' => ⟨fun a o e n => k'.kp a o (k7.kp a o e n) fun z => (g7 a z).elim (fun z => n (.inr z)) fun q => (by rw [q] at e; cases e), fun a n => k'.th a (k7.th a n)⟩
      have th7 : ∀ {a}, H6 a ≠ none → H7 a ≠ none := fun {a} => k7.th a
      have growG : ∀ {M' : AS}, Grow M7 H7 M' → Grow M6 H6 M' := fun {M'} g' a z => by
        rcases g' a z with q | q
        · exact g7 a q
        · right
          cases e : H6 a with
          | none => rfl
          | some o => exact absurd q (th7 (by rw [e]; simp))
      obtain ⟨go1, stop1⟩ := ok1 j H7 (fun a => (C.add L).G a ∨ M7 a) (fun a o e n => k7.kp a o e n)
        (fun a n z => z.elim .inl fun z => (g7 a z).elim .inr fun q => absurd q n) mk7.rel.avt
      by_cases hlt1 : j < items1.length
      · obtain ⟨go1, yl1⟩ := go1 _ (List.getElem?_eq_getElem hlt1)
        refine .inr ⟨go1, fun H' => ∃ M' env' acc', Making K C M1 H1 L M' env' (L2.wipe σ4 vs1) H' acc' ∧ Keep (fun a => (C.add L).G a ∨ M6 a) H6 H' ∧ Grow M6 H6 M' ∧ I1 (j + 1) acc' env', fun H' ⟨M', env', acc', q⟩ => ⟨_, by omega, rfl, hlt1, M', env', acc', q⟩, fun x1 H8 hy1 => ?_⟩
        obtain ⟨sm1, rx1⟩ := yl1 x1 H8 hy1
        have R8 := mk7.rel.same sm1
        have mk8 := mk7.grow R8 (.same sm1) (.refl _ _)
        refine ⟨C.add L, M7, env7, _, _, R8, rx1, turn1 j _ acc7 env7 (List.getElem?_eq_getElem hlt1) i7, fun env9 σ9 h9 R9 l9 s9 => ?_⟩
        have hw1 : L2.wipe σ9 vs1 = L2.wipe σ4 vs1 := (wipe_ext l9 s9).trans wipe_wipe
        refine ⟨hw1, C.add L, M7, env9, _, _, R9, h9, fun b e10 H10 M10 h10 R10 k10 g10 => ?_, fun _ _ _ _ z _ _ _ => z⟩
        have mk10 := mk8.grow R10 k10 g10
        have k710 : Keep M7 H7 H10 := (Keep.same sm1).trans (.refl _ _) k10
        have g710 : Grow M7 H7 M10 := Grow.trans (.same sm1) (.refl _ _) g10
        cases b with
        | false =>
          rw [if_neg Bool.false_ne_true] at h10
          exact iteF ⟨M10, _, acc7, mk10.back hw1, keepG k710, growG g710, h10⟩
        | true =>
          rw [if_pos rfl] at h10
          refine iteT ⟨C.add L, M10, e10, _, _, R10, h10, fun y e11 v H11 M11 h11 R11 k11 g11 r11 => ?_, fun _ _ _ _ z _ _ _ => z⟩
          obtain ⟨ws, q1, q2, q3⟩ := mk10.app hD R11 k11 g11 r11
          have k711 : Keep M7 H7 H11 := k710.trans g710 k11
          refine ⟨ws, q1, by rw [q2, line_eq]; exact h11.1, M11, _, _, q3.back hw1, ⟨fun a o e n => ?_, fun a n => ?_⟩, growG (Grow.trans k710 g710 g11), h11.2⟩
          · rw [upd_ne fun z => n (.inl (.inr z))]
            exact (keepG k711).kp a o e n
          · by_cases z : a = L
            · subst z; rw [upd_same]; simp
            · rw [upd_ne z]; exact (keepG k711).th a n
      · have e : j = items1.length := by omega
        subst e
        refine .inl ⟨stop1 (Nat.le_refl _), M7, _, acc7, ?_, fin1 acc7 env7 i7⟩
        have m' : Making K C M1 H1 L M7 env7 σ4 H7 acc7 := ⟨mk7.rel.unwipe, mk7.kp, mk7.gr, mk7.li⟩
        exact m'.back hw
  · have e : i = items.length := by omega
    subst e
    refine .inl ⟨stop (Nat.le_refl _), ?_⟩
    obtain ⟨ws, q1, q2⟩ := mk.li
    exact hk _ env2 L (.ref L) H2 M2 (fin acc env2 i2) mk.rel.unwipe (k1.trans g1 mk.kp) (Grow.trans k1 g1 mk.gr) (by
      cases e : H L with
      | none => rfl
      | some o => exact absurd hD (k1.th L (by rw [e]; simp))) ⟨rfl, ws, q1, q2⟩
end

section
variable {X : Cx} {W : HW} {elt tg iter tg1 iter1 c : Expr} {scope : Scope} {own : List (Str × Nat)} {pos : Pos} {src src1 : DI} {g g1 : DG} {tt tt1 : DT} {te : DE} {ifs ifs1 : List Expr}
theorem dts_nil : PTs X [] (upT X.K W dtYes) := by
  refine ⟨fun pins s σ H Q I h => pts_nil.run pins s σ H Q I ?_⟩
  obtain ⟨C, M, env, k, x, R, h, hk, hx⟩ := h
  exact hk true env H M h R (.refl _ _) (.refl _ _)
theorem dts_one {t : DT} (h : PT X c (upT X.K W t)) : PTs X [c] (upT X.K W t) := pts_one h
/-- a comprehension as a value -/
theorem de_lc (vs : List Nat) (hv : own.map (·.2) = vs) (hc : X.calm = true) (hN : X.N.Nodup) (hi : PI X tg iter (upI X.K W src)) (ok : BlkOk X.N X.env.scope scope own)
    (hg : ∀ (s : Shared) (H : Hp) (C : Addr) (cl : List (Str × Addr)) (fp : List Addr), PG (X.blk s H scope (compEnvC scope cl C X.env) fp) tg (upG X.K vs g)) (ht : ∀ (s : Shared) (H : Hp) (C : Addr) (cl : List (Str × Addr)) (fp : List Addr), PTs (X.blk s H scope (compEnvC scope cl C X.env) fp) ifs (upT X.K W0 tt))
    (he : ∀ (s : Shared) (H : Hp) (C : Addr) (cl : List (Str × Addr)) (fp : List Addr), PE (X.blk s H scope (compEnvC scope cl C X.env) fp) elt (up X.K W0 te)) (hs : ∀ x, foldedSetIterable iter X.env x = pure x := by intro _; rfl) :
    PE X (.ListComp elt [⟨tg, iter, ifs, 0⟩] scope pos) (upF X.K W (dLc src g tt te vs)) := by
  subst hv
  exact pe_conv (pe_lc hc hN hi ok hg ht he hs) fun _ _ _ => sim_lc
theorem de_lc2 (vs vs1 : List Nat) (hv : own.map (·.2) = vs) (hv1 : ∀ i ∈ vs1, i ∈ vs) (hc : X.calm = true) (hN : X.N.Nodup) (hi : PI X tg iter (upI X.K W src)) (ok : BlkOk X.N X.env.scope scope own)
    (hg : ∀ (s : Shared) (H : Hp) (C : Addr) (cl : List (Str × Addr)) (fp : List Addr), PG (X.blk s H scope (compEnvC scope cl C X.env) fp) tg (upG X.K vs g)) (ht : ∀ (s : Shared) (H : Hp) (C : Addr) (cl : List (Str × Addr)) (fp : List Addr), PTs (X.blk s H scope (compEnvC scope cl C X.env) fp) ifs (upT X.K W0 tt))
    (hi1 : ∀ (s : Shared) (H : Hp) (C : Addr) (cl : List (Str × Addr)) (fp : List Addr), PI (X.blk s H scope (compEnvC scope cl C X.env) fp) tg1 iter1 (upI X.K W0 src1))
    (hg1 : ∀ (s : Shared) (H : Hp) (C : Addr) (cl : List (Str × Addr)) (fp : List Addr), PG (X.blk s H scope (compEnvC scope cl C X.env) fp) tg1 (upG X.K vs1 g1)) (ht1 : ∀ (s : Shared) (H : Hp) (C : Addr) (cl : List (Str × Addr)) (fp : List Addr), PTs (X.blk s H scope (compEnvC scope cl C X.env) fp) ifs1 (upT X.K W0 tt1))
    (he : ∀ (s : Shared) (H : Hp) (C : Addr) (cl : List (Str × Addr)) (fp : List Addr), PE (X.blk s H scope (compEnvC scope cl C X.env) fp) elt (up X.K W0 te)) (hs : ∀ x, foldedSetIterable iter X.env x = pure x := by intro _; rfl) (hs1 : ∀ env x, foldedSetIterable iter1 env x = pure x := by intro _ _; rfl) :
    PE X (.ListComp elt [⟨tg, iter, ifs, 0⟩, ⟨tg1, iter1, ifs1, 0⟩] scope pos) (upF X.K W (dLc2 src g tt src1 g1 tt1 te vs vs1)) := by
  subst hv
  exact pe_conv (pe_lc2 hc hN hi ok hv1 hg ht hi1 hg1 ht1 he hs hs1) fun _ _ _ => sim_lc2
/-- name = [..] on one line, the name a local: plain data, or a mutable thing -/
theorem ds_setLc {fr : Bool} {i : Nat} {y : Str} {py spos : Pos} (vs : List Nat) (hv : own.map (·.2) = vs) (hc : X.calm = true) (hN : X.N.Nodup) (hy : X.N[i]? = some y) (hyl : X.env.scope.names.lookup y = some .local)
    (hsw : swapsWith (.ListComp elt [⟨tg, iter, ifs, 0⟩] scope pos) (some (.Name y py)) spos.line X.env = pure true) (hi : PI X tg iter (upI X.K W src)) (ok : BlkOk X.N X.env.scope scope own)
    (hg : ∀ (s : Shared) (H : Hp) (C : Addr) (cl : List (Str × Addr)) (fp : List Addr), PG (X.blk s H scope (compEnvC scope cl C X.env) fp) tg (upG X.K vs g)) (ht : ∀ (s : Shared) (H : Hp) (C : Addr) (cl : List (Str × Addr)) (fp : List Addr), PTs (X.blk s H scope (compEnvC scope cl C X.env) fp) ifs (upT X.K W0 tt))
    (he : ∀ (s : Shared) (H : Hp) (C : Addr) (cl : List (Str × Addr)) (fp : List Addr), PE (X.blk s H scope (compEnvC scope cl C X.env) fp) elt (up X.K W0 te)) (hs : ∀ x, foldedSetIterable iter X.env x = pure x := by intro _; rfl) :
    PS X (.Assign [.Name y py] (.ListComp elt [⟨tg, iter, ifs, 0⟩] scope pos) spos) (upS X.K W fr (sAsg i (dLc src g tt te vs))) := by
  subst hv
  refine ps_conv (ps_setLc hc hN hy hyl hsw hi ok hg ht he hs) fun D σ H h => ?_
  obtain ⟨C, M, env, k, R, h, hn, hr, hx, _⟩ := h
  refine sim_lc (up_of_upF ⟨C, M, env, _, _, R, h, fun d e1 v H1 M1 h1 R1 k1 g1 r1 => hn _ _ H1 M1 h1 (R1.storeF r1) k1 g1, fun e env' H' M' xe R' k' g' => hx e env' σ H' M' xe R' k' g'⟩)
end
end FX

set_option Elab.async false
set_option linter.all false
set_option maxRecDepth 100000
set_option maxHeartbeats 1000000
/-! FxF: dicts; things of ours changed; several targets -/
namespace FX
open PySem PySem.Spec PyProof.Rows L2

/-! ### dicts as lists of pairs -/
section
variable {κ : Type} [DecidableEq κ]
def asGet (kvs : List (κ × D)) (k : κ) : Option D := (kvs.find? fun p => decide (p.1 = k)).map (·.2)
def asPut (kvs : List (κ × D)) (k : κ) (d : D) : List (κ × D) :=
  if (kvs.any fun p => decide (p.1 = k)) = true then kvs.map (fun p => if p.1 = k then (p.1, d) else p) else kvs ++ [(k, d)]
theorem asGet_nil (k : κ) : asGet ([] : List (κ × D)) k = none := rfl
theorem asGet_cons (p : κ × D) (r : List (κ × D)) (k : κ) : asGet (p :: r) k = if p.1 = k then some p.2 else asGet r k := by
  unfold asGet
  rw [List.find?_cons]
  by_cases h : p.1 = k
  · simp [h]
  · simp [h]
theorem asAny_get (kvs : List (κ × D)) (k : κ) : (kvs.any fun p => decide (p.1 = k)) = (asGet kvs k).isSome := by
  induction kvs with
  | nil => rfl
  | cons p r ih =>
    rw [List.any_cons, asGet_cons, ih]
    by_cases h : p.1 = k <;> simp [h]
theorem asGet_map (kvs : List (κ × D)) (k j : κ) (d : D) : asGet (kvs.map fun p => if p.1 = k then (p.1, d) else p) j = (asGet kvs j).map fun x => if j = k then d else x := by
  induction kvs with
  | nil => rfl
  | cons p r ih =>
    rw [List.map_cons, asGet_cons, asGet_cons, ih]
    by_cases h : p.1 = k
    · rw [if_pos h]
      by_cases h2 : p.1 = j
      · simp only [if_pos h2, Option.map_some]
        rw [if_pos (h2.symm.trans h)]
      · simp only [if_neg h2]
    · rw [if_neg h]
      by_cases h2 : p.1 = j
      · simp only [if_pos h2, Option.map_some]
        rw [if_neg fun z => h (h2.trans z)]
      · simp only [if_neg h2]
theorem asGet_snoc (kvs : List (κ × D)) (k j : κ) (d : D) (h : asGet kvs k = none) : asGet (kvs ++ [(k, d)]) j = if j = k then some d else asGet kvs j := by
  induction kvs with
  | nil =>
    show asGet [(k, d)] j = _
    rw [asGet_cons, asGet_nil]
    by_cases e : k = j
    · rw [if_pos e, if_pos e.symm]
    · rw [if_neg e, if_neg (Ne.symm e)]
  | cons p r ih =>
    rw [asGet_cons] at h
    by_cases hp : p.1 = k
    · rw [if_pos hp] at h; cases h
    · rw [if_neg hp] at h
      rw [List.cons_append, asGet_cons, asGet_cons, ih h]
      by_cases h2 : p.1 = j
      · rw [if_pos h2, if_pos h2, if_neg fun z => hp (h2.trans z)]
      · rw [if_neg h2, if_neg h2]
/-- what a dict holds behind a store -/
theorem asGet_put (kvs : List (κ × D)) (k j : κ) (d : D) : asGet (asPut kvs k d) j = if j = k then some d else asGet kvs j := by
  unfold asPut
  rw [asAny_get]
  cases h : asGet kvs k with
  | none =>
    rw [if_neg (by simp)]
    exact asGet_snoc kvs k j d h
  | some x =>
    rw [if_pos (by simp), asGet_map]
    by_cases e : j = k
    · subst e; rw [h, if_pos rfl]; simp
    · rw [if_neg e]
      cases asGet kvs j <;> simp [e]
theorem asPut_keys (kvs : List (κ × D)) (k : κ) (d : D) : (asPut kvs k d).map (·.1) = if (asGet kvs k).isSome = true then kvs.map (·.1) else kvs.map (·.1) ++ [k] := by
  unfold asPut
  rw [asAny_get]
  by_cases h : (asGet kvs k).isSome = true
  · rw [if_pos h, if_pos h, List.map_map]
    apply List.map_congr_left
    intro p _
    show (if p.1 = k then (p.1, d) else p).1 = p.1
    split <;> rfl
  · rw [if_neg h, if_neg h, List.map_append]
    rfl
theorem asPut_length (kvs : List (κ × D)) (k : κ) (d : D) : (asPut kvs k d).length ≤ kvs.length + 1 := by
  unfold asPut
  split
  · rw [List.length_map]; omega
  · rw [List.length_append]; simp
theorem asGet_isSome (kvs : List (κ × D)) (k : κ) : (asGet kvs k).isSome = true ↔ k ∈ kvs.map (·.1) := by
  rw [← asAny_get, List.any_eq_true]
  constructor
  · rintro ⟨p, hp, e⟩
    exact List.mem_map.mpr ⟨p, hp, of_decide_eq_true e⟩
  · intro h
    obtain ⟨p, hp, e⟩ := List.mem_map.mp h
    exact ⟨p, hp, decide_eq_true e⟩
end
theorem kI_inj {a b : Int} (h : kI a = kI b) : a = b := Sum.inl.inj h
theorem kT_inj : ∀ {a b : List Int}, kT a = kT b → a = b
  | [], [], _ => rfl
  | [], _ :: _, h => by cases h
  | _ :: _, [], h => by cases h
  | x :: a, y :: b, h => by
    have h : kI x :: kT a = kI y :: kT b := h
    obtain ⟨h1, h2⟩ := List.cons.inj h
    rw [kI_inj h1, kT_inj h2]
theorem kT_tup (ns : List Int) : (kT ns).map kV = ns.map V.int := by
  unfold kT
  rw [List.map_map]
  rfl
section
variable {K : PySem.W.Frag} {Av : AS} {H : Hp}
theorem RepI.val {k : Int} : ∀ {kvs : List (Int × D)} {ws : List (Key × V)}, RepI K Av H kvs ws →
    (asGet kvs k = none ∧ valV ws (kI k) = none) ∨ ∃ d v, asGet kvs k = some d ∧ valV ws (kI k) = some v ∧ Rep K Av H d v
  | [], _, h => by cases h; exact .inl ⟨rfl, rfl⟩
  | (j, d) :: kvs, _, ⟨v, r, e, h1, h2⟩ => by
    subst e
    by_cases h : j = k
    · subst h
      exact .inr ⟨d, v, by rw [asGet_cons, if_pos rfl], valV_pos rfl, h1⟩
    · have hk : ¬ kI j = kI k := fun z => h (kI_inj z)
      rw [asGet_cons, if_neg h, valV_neg (p := (kI j, v)) hk]
      exact RepI.val h2
theorem RepT.val {k : List Int} : ∀ {kvs : List (List Int × D)} {ws : List (List Key × V)}, RepT K Av H kvs ws →
    (asGet kvs k = none ∧ valV ws (kT k) = none) ∨ ∃ d v, asGet kvs k = some d ∧ valV ws (kT k) = some v ∧ Rep K Av H d v
  | [], _, h => by cases h; exact .inl ⟨rfl, rfl⟩
  | (j, d) :: kvs, _, ⟨v, r, e, h1, h2⟩ => by
    subst e
    by_cases h : j = k
    · subst h
      exact .inr ⟨d, v, by rw [asGet_cons, if_pos rfl], valV_pos rfl, h1⟩
    · have hk : ¬ kT j = kT k := fun z => h (kT_inj z)
      rw [asGet_cons, if_neg h, valV_neg (p := (kT j, v)) hk]
      exact RepT.val h2
theorem RepI.put {k : Int} {d : D} {v : V} {kvs : List (Int × D)} {ws : List (Key × V)} (r : RepI K Av H kvs ws) (rd : Rep K Av H d v) : RepI K Av H (asPut kvs k d) (putK ws (kI k) v) := by
  unfold asPut putK
  have e : (kvs.any fun p => decide (p.1 = k)) = (ws.any fun kv => decide (kv.1 = kI k)) := by
    rw [asAny_get, valV_any]
    rcases r.val (k := k) with ⟨h1, h2⟩ | ⟨d, v, h1, h2, _⟩ <;> rw [h1, h2] <;> rfl
  rw [← e]
  have m : ∀ {kvs : List (Int × D)} {ws : List (Key × V)}, RepI K Av H kvs ws → RepI K Av H (kvs.map fun p => if p.1 = k then (p.1, d) else p) (ws.map fun kv => if kv.1 = kI k then (kv.1, v) else kv) := by
    intro kvs
    induction kvs with
    | nil => intro ws h; cases h; rfl
    | cons p kvs ih =>
      obtain ⟨j, d'⟩ := p
      intro ws ⟨v', r', e', h1, h2⟩
      subst e'
      by_cases h : j = k
      · subst h
        simp only [List.map_cons, if_true]
        exact ⟨v, _, rfl, rd, ih h2⟩
      · have hk : ¬ kI j = kI k := fun z => h (kI_inj z)
        simp only [List.map_cons, if_neg h, if_neg hk]
        exact ⟨v', _, rfl, h1, ih h2⟩
  have ap : ∀ {kvs : List (Int × D)} {ws : List (Key × V)}, RepI K Av H kvs ws → RepI K Av H (kvs ++ [(k, d)]) (ws ++ [(kI k, v)]) := by
    intro kvs
    induction kvs with
    | nil => intro ws h; cases h; exact ⟨v, [], rfl, rd, rfl⟩
    | cons p kvs ih =>
      obtain ⟨j, d'⟩ := p
      intro ws ⟨v', r', e', h1, h2⟩
      subst e'
      exact ⟨v', _, rfl, h1, ih h2⟩
  split
  · exact m r
  · exact ap r
theorem RepT.put {k : List Int} {d : D} {v : V} {kvs : List (List Int × D)} {ws : List (List Key × V)} (r : RepT K Av H kvs ws) (rd : Rep K Av H d v) : RepT K Av H (asPut kvs k d) (putK ws (kT k) v) := by
  unfold asPut putK
  have e : (kvs.any fun p => decide (p.1 = k)) = (ws.any fun kv => decide (kv.1 = kT k)) := by
    rw [asAny_get, valV_any]
    rcases r.val (k := k) with ⟨h1, h2⟩ | ⟨d, v, h1, h2, _⟩ <;> rw [h1, h2] <;> rfl
  rw [← e]
  have m : ∀ {kvs : List (List Int × D)} {ws : List (List Key × V)}, RepT K Av H kvs ws → RepT K Av H (kvs.map fun p => if p.1 = k then (p.1, d) else p) (ws.map fun kv => if kv.1 = kT k then (kv.1, v) else kv) := by
    intro kvs
    induction kvs with
    | nil => intro ws h; cases h; rfl
    | cons p kvs ih =>
      obtain ⟨j, d'⟩ := p
      intro ws ⟨v', r', e', h1, h2⟩
      subst e'
      by_cases h : j = k
      · subst h
        simp only [List.map_cons, if_true]
        exact ⟨v, _, rfl, rd, ih h2⟩
      · have hk : ¬ kT j = kT k := fun z => h (kT_inj z)
        simp only [List.map_cons, if_neg h, if_neg hk]
        exact ⟨v', _, rfl, h1, ih h2⟩
  have ap : ∀ {kvs : List (List Int × D)} {ws : List (List Key × V)}, RepT K Av H kvs ws → RepT K Av H (kvs ++ [(k, d)]) (ws ++ [(kT k, v)]) := by
    intro kvs
    induction kvs with
    | nil => intro ws h; cases h; exact ⟨v, [], rfl, rd, rfl⟩
    | cons p kvs ih =>
      obtain ⟨j, d'⟩ := p
      intro ws ⟨v', r', e', h1, h2⟩
      subst e'
      exact ⟨v', _, rfl, h1, ih h2⟩
  split
  · exact m r
  · exact ap r
end

def intsOf : List D → Option (List Int)
  | [] => some []
  | .int n :: ds => (intsOf ds).map (n :: ·)
  | _ => none
/-- a dict asked: none, the dict has no such key kind -/
def dgetD : D → D → Option (Option D)
  | .dI kvs, .int k => some (asGet kvs k)
  | .dT kvs, .tup ds => (intsOf ds).map fun ns => asGet kvs ns
  | _, _ => none
theorem ints_mapM : ∀ {ds : List D} {ns : List Int}, intsOf ds = some ns → ds = ns.map D.int
  | [], ns, h => by cases h; rfl
  | .int n :: ds, ns, h => by
    cases e : intsOf ds with
    | none => rw [intsOf, e] at h; cases h
    | some ms =>
      rw [intsOf, e] at h
      cases h
      rw [ints_mapM e]; rfl
  | .non :: _, _, h | .bl _ :: _, _, h | .str _ :: _, _, h | .tup _ :: _, _, h | .lst _ :: _, _, h | .dI _ :: _, _, h | .dT _ :: _, _, h | .scr _ :: _, _, h | .obj _ _ :: _, _, h => by cases h
theorem intsOf_map (ns : List Int) : intsOf (ns.map D.int) = some ns := by
  induction ns with
  | nil => rfl
  | cons n ns ih => rw [List.map_cons, intsOf, ih]; rfl
theorem dget_I (kvs : List (Int × D)) (k : Int) : dgetD (.dI kvs) (.int k) = some (asGet kvs k) := rfl
theorem dget_T (kvs : List (List Int × D)) (ns : List Int) : dgetD (.dT kvs) (.tup (ns.map .int)) = some (asGet kvs ns) := by
  show (intsOf (ns.map D.int)).map _ = _
  rw [intsOf_map]; rfl
section
variable {K : PySem.W.Frag} {Av : AS} {H : Hp}
theorem dget_rep {c k : D} {x y : V} {o : Option D} (rc : Rep K Av H c x) (rk : Rep K Av H k y) (h : dgetD c k = some o) :
    ∃ a r, x = .ref a ∧ DGet H a y r ∧ ((o = none ∧ r = none) ∨ ∃ d v, o = some d ∧ r = some v ∧ Rep K Av H d v) := by
  cases c with
  | dI kvs =>
    cases k with
    | int n =>
      cases h
      obtain ⟨a, ws, rfl, na, ha, r⟩ := rc
      have rk : y = .int n := rk
      subst rk
      refine ⟨a, _, rfl, .inl ⟨ws, kI n, ha, rfl, rfl⟩, ?_⟩
      rcases r.val (k := n) with ⟨h1, h2⟩ | ⟨d, v, h1, h2, h3⟩
      · exact .inl ⟨h1, h2⟩
      · exact .inr ⟨d, v, h1, h2, h3⟩
    | non | bl _ | str _ | tup _ | lst _ | dI _ | dT _ | scr _ | obj _ _ => cases h
  | dT kvs =>
    cases k with
    | tup ds =>
      have h : (intsOf ds).map (fun ns => asGet kvs ns) = some o := h
      cases e : intsOf ds with
      | none => rw [e] at h; cases h
      | some ns =>
        rw [e] at h
        have h : some (asGet kvs ns) = some o := h
        cases h
        have e := ints_mapM e
        subst e
        obtain ⟨a, ws, rfl, na, ha, r⟩ := rc
        obtain ⟨b, vs, rfl, nb, hb, rb⟩ := rk
        have := Reps.ints.mp rb
        subst this
        refine ⟨a, _, rfl, .inr ⟨ws, kT ns, b, ha, rfl, by rw [kT_tup]; exact hb, rfl⟩, ?_⟩
        rcases r.val (k := ns) with ⟨h1, h2⟩ | ⟨d, v, h1, h2, h3⟩
        · exact .inl ⟨h1, h2⟩
        · exact .inr ⟨d, v, h1, h2, h3⟩
    | non | bl _ | int _ | str _ | lst _ | dI _ | dT _ | scr _ | obj _ _ => cases h
  | non | bl _ | int _ | str _ | tup _ | lst _ | scr _ | obj _ _ => cases k <;> cases h
end
def dItem (f : D → D → Option D) (ta tb : DE) : DE := dOp f ta tb
def itemDict (c k : D) : Option D := (dgetD c k).bind id
def inDict (k c : D) : Option D := (dgetD c k).map fun o => .bl o.isSome
def notInDict (k c : D) : Option D := (dgetD c k).map fun o => .bl (!o.isSome)
def dGet1 (t u : DE) : DE := fun env k x => t env (fun c e => u e (fun j e2 => ∃ o, dgetD c j = some o ∧ k (o.getD .non) e2) x) x
def dGet2 (t u w : DE) : DE := fun env k x => t env (fun c e => u e (fun j e2 => w e2 (fun z e3 => ∃ o, dgetD c j = some o ∧ k (o.getD z) e3) x) x) x
section
variable {X : Cx} {W : HW} {e e2 e3 : Expr} {pos apos : Pos} {t u w : DE}
theorem de_item (hu : X.A.units + 1 < cLine) (ho : PE X e (up X.K W t)) (hi : PE X e2 (up X.K W u)) (hs : NoSl e2) : PE X (.Subscript e e2 pos) (up X.K W (dOp itemDict t u)) := by
  refine pe_conv (pe_dget hu ho hi hs) fun σ H Q h => ?_
  obtain ⟨C, M, env, k, x, R, h, hk, hx⟩ := h
  refine ⟨C, M, env, _, x, R, h, fun a e1 va H1 M1 h1 R1 k1 g1 r1 => ?_, hx⟩
  refine ⟨C, M1, e1, _, x, R1, h1, fun b e2 vb H2 M2 h2 R2 k2 g2 r2 => ?_, fun e env' H' M' xe R' k' g' => hx e env' H' M' xe R' (k1.trans g1 k') (Grow.trans k1 g1 g')⟩
  obtain ⟨d, hd, kd⟩ := h2
  unfold itemDict at hd
  cases q : dgetD a b with
  | none => rw [q] at hd; cases hd
  | some o =>
    rw [q] at hd
    have hd : o = some d := hd
    subst hd
    obtain ⟨c, r, rfl, g, z⟩ := dget_rep (k2.rep g2 r1) r2 q
    rcases z with ⟨z, _⟩ | ⟨d', v, z, rfl, rv⟩
    · cases z
    · cases z
      exact ⟨c, v, rfl, g, hk _ _ _ H2 M2 kd R2 (k1.trans g1 k2) (Grow.trans k1 g1 g2) rv⟩
theorem sim_din {K : PySem.W.Frag} {σ : L2.St} {H : Hp} {Q : VK} (h : up K W (dOp inDict t u) σ H Q) : tDIn (up K W t) (up K W u) σ H Q := by
  obtain ⟨C, M, env, k, x, R, h, hk, hx⟩ := h
  refine ⟨C, M, env, _, x, R, h, fun a e1 va H1 M1 h1 R1 k1 g1 r1 => ?_, hx⟩
  refine ⟨C, M1, e1, _, x, R1, h1, fun b e2 vb H2 M2 h2 R2 k2 g2 r2 => ?_, fun e env' H' M' xe R' k' g' => hx e env' H' M' xe R' (k1.trans g1 k') (Grow.trans k1 g1 g')⟩
  obtain ⟨d, hd, kd⟩ := h2
  unfold inDict at hd
  cases q : dgetD b a with
  | none => rw [q] at hd; cases hd
  | some o =>
    rw [q] at hd
    have hd : D.bl o.isSome = d := Option.some.inj hd
    subst hd
    obtain ⟨c, r, rfl, g, z⟩ := dget_rep r2 (k2.rep g2 r1) q
    refine ⟨c, r, rfl, g, hk _ _ _ H2 M2 kd R2 (k1.trans g1 k2) (Grow.trans k1 g1 g2) ?_⟩
    rcases z with ⟨rfl, rfl⟩ | ⟨d', v, rfl, rfl, rv⟩ <;> rfl
theorem sim_dnotin {K : PySem.W.Frag} {σ : L2.St} {H : Hp} {Q : VK} (h : up K W (dOp notInDict t u) σ H Q) : tDNotIn (up K W t) (up K W u) σ H Q := by
  obtain ⟨C, M, env, k, x, R, h, hk, hx⟩ := h
  refine ⟨C, M, env, _, x, R, h, fun a e1 va H1 M1 h1 R1 k1 g1 r1 => ?_, hx⟩
  refine ⟨C, M1, e1, _, x, R1, h1, fun b e2 vb H2 M2 h2 R2 k2 g2 r2 => ?_, fun e env' H' M' xe R' k' g' => hx e env' H' M' xe R' (k1.trans g1 k') (Grow.trans k1 g1 g')⟩
  obtain ⟨d, hd, kd⟩ := h2
  unfold notInDict at hd
  cases q : dgetD b a with
  | none => rw [q] at hd; cases hd
  | some o =>
    rw [q] at hd
    have hd : D.bl (!o.isSome) = d := Option.some.inj hd
    subst hd
    obtain ⟨c, r, rfl, g, z⟩ := dget_rep r2 (k2.rep g2 r1) q
    refine ⟨c, r, rfl, g, hk _ _ _ H2 M2 kd R2 (k1.trans g1 k2) (Grow.trans k1 g1 g2) ?_⟩
    rcases z with ⟨rfl, rfl⟩ | ⟨d', v, rfl, rfl, rv⟩ <;> rfl
theorem de_din (hu : X.A.units + 1 < cLine) (hi : PE X e (up X.K W t)) (ho : PE X e2 (up X.K W u)) (h1 : behindInMarks .In e2 = false := by rfl) : PE X (.Compare e [.In] [e2] pos) (up X.K W (dOp inDict t u)) := pe_conv (pe_cmp (pc_din hu hi ho) h1) fun _ _ _ => sim_din
theorem de_dnotin (hu : X.A.units + 1 < cLine) (hi : PE X e (up X.K W t)) (ho : PE X e2 (up X.K W u)) (h1 : behindInMarks .NotIn e2 = false := by rfl) : PE X (.Compare e [.NotIn] [e2] pos) (up X.K W (dOp notInDict t u)) := pe_conv (pe_cmp (pc_dnotin hu hi ho) h1) fun _ _ _ => sim_dnotin
theorem sim_test {K : PySem.W.Frag} {t : DE} {th : TE} {σ : L2.St} {H : Hp} {Q : Bool → Hp → Prop} (c : ∀ σ H Q, up K W t σ H Q → th σ H Q) (h : upT K W (dtB t) σ H Q) : th σ H fun x H1 => ∃ c, x = .bl c ∧ Q c H1 := by
  obtain ⟨C, M, env, k, x, R, h, hk, hx⟩ := h
  refine c σ H _ ⟨C, M, env, _, x, R, h, fun a e1 va H1 M1 h1 R1 k1 g1 r1 => ?_, hx⟩
  obtain ⟨b, rfl, kd⟩ := h1
  have r1 : va = .bl b := r1
  exact ⟨b, r1, hk b e1 H1 M1 kd R1 k1 g1⟩
theorem dt_din (hu : X.A.units + 1 < cLine) (hi : PE X e (up X.K W t)) (ho : PE X e2 (up X.K W u)) (h1 : behindInMarks .In e2 = false := by rfl) : PT X (.Compare e [.In] [e2] pos) (upT X.K W (dtB (dOp inDict t u))) :=
  pt_conv (pt_cmp (pc_din hu hi ho) h1) fun _ _ _ => sim_test fun _ _ _ => sim_din
theorem dt_dnotin (hu : X.A.units + 1 < cLine) (hi : PE X e (up X.K W t)) (ho : PE X e2 (up X.K W u)) (h1 : behindInMarks .NotIn e2 = false := by rfl) : PT X (.Compare e [.NotIn] [e2] pos) (upT X.K W (dtB (dOp notInDict t u))) :=
  pt_conv (pt_cmp (pc_dnotin hu hi ho) h1) fun _ _ _ => sim_test fun _ _ _ => sim_dnotin
theorem isD_of {K : PySem.W.Frag} {Av : AS} {H : Hp} {c : D} {x : V} (h : Rep K Av H c x) (hc : ∃ j o, dgetD c j = some o) : ∃ a, x = .ref a ∧ IsD H a := by
  obtain ⟨j, o, hc⟩ := hc
  cases c with
  | dI kvs => obtain ⟨a, ws, rfl, na, ha, r⟩ := h; exact ⟨a, rfl, .inl ⟨ws, ha⟩⟩
  | dT kvs => obtain ⟨a, ws, rfl, na, ha, r⟩ := h; exact ⟨a, rfl, .inr ⟨ws, ha⟩⟩
  | non | bl _ | int _ | str _ | tup _ | lst _ | scr _ | obj _ _ => cases j <;> cases hc
def isDict : D → Bool
  | .dI _ => true
  | .dT _ => true
  | _ => false
theorem isD_of' {K : PySem.W.Frag} {Av : AS} {H : Hp} {c : D} {x : V} (h : Rep K Av H c x) (hc : isDict c = true) : ∃ a, x = .ref a ∧ IsD H a := by
  cases c with
  | dI kvs => obtain ⟨a, ws, rfl, na, ha, r⟩ := h; exact ⟨a, rfl, .inl ⟨ws, ha⟩⟩
  | dT kvs => obtain ⟨a, ws, rfl, na, ha, r⟩ := h; exact ⟨a, rfl, .inr ⟨ws, ha⟩⟩
  | non | bl _ | int _ | str _ | tup _ | lst _ | scr _ | obj _ _ => cases hc
/-- d.get(k), d.get(k, z) -/
def dGetA (t u : DE) : DE := fun env k x => t env (fun c e => isDict c = true ∧ u e (fun j e2 => ∃ o, dgetD c j = some o ∧ k (o.getD .non) e2) x) x
def dGetB (t u w : DE) : DE := fun env k x => t env (fun c e => isDict c = true ∧ u e (fun j e2 => w e2 (fun z e3 => ∃ o, dgetD c j = some o ∧ k (o.getD z) e3) x) x) x
theorem de_get1 (hu : X.A.units + 1 < cLine) (ho : PE X e (up X.K W t)) (hi : PE X e2 (up X.K W u)) (m : M1 X e "get" apos e2 pos) : PE X (.Call (.Attribute e "get" apos) [e2] [] pos) (up X.K W (dGetA t u)) := by
  refine pe_conv (pe_dget1 hu ho hi m) fun σ H Q h => ?_
  obtain ⟨C, M, env, k, x, R, h, hk, hx⟩ := h
  refine ⟨C, M, env, _, x, R, h, fun a e1 va H1 M1 h1 R1 k1 g1 r1 => ?_, hx⟩
  obtain ⟨hc, h1⟩ := h1
  obtain ⟨p, rfl, isd⟩ := isD_of' r1 hc
  refine ⟨p, rfl, isd, C, M1, e1, _, x, R1, h1, fun b e2 vb H2 M2 h2 R2 k2 g2 r2 => ?_, fun e env' H' M' xe R' k' g' => hx e env' H' M' xe R' (k1.trans g1 k') (Grow.trans k1 g1 g')⟩
  obtain ⟨o, q, kd⟩ := h2
  obtain ⟨c, r, e, g, z⟩ := dget_rep (k2.rep g2 r1) r2 q
  cases e
  refine ⟨r, g, hk _ _ _ H2 M2 kd R2 (k1.trans g1 k2) (Grow.trans k1 g1 g2) ?_⟩
  rcases z with ⟨rfl, rfl⟩ | ⟨d', v, rfl, rfl, rv⟩
  · rfl
  · exact rv
theorem de_get2 (hu : X.A.units + 1 < cLine) (ho : PE X e (up X.K W t)) (hi : PE X e2 (up X.K W u)) (h3 : PE X e3 (up X.K W w)) (m : M2 X e "get" apos e2 e3 pos) : PE X (.Call (.Attribute e "get" apos) [e2, e3] [] pos) (up X.K W (dGetB t u w)) := by
  refine pe_conv (pe_dget2 hu ho hi h3 m) fun σ H Q h => ?_
  obtain ⟨C, M, env, k, x, R, h, hk, hx⟩ := h
  refine ⟨C, M, env, _, x, R, h, fun a e1 va H1 M1 h1 R1 k1 g1 r1 => ?_, hx⟩
  obtain ⟨hc, h1⟩ := h1
  obtain ⟨p, rfl, isd⟩ := isD_of' r1 hc
  refine ⟨p, rfl, isd, C, M1, e1, _, x, R1, h1, fun b e2 vb H2 M2 h2 R2 k2 g2 r2 => ?_, fun e env' H' M' xe R' k' g' => hx e env' H' M' xe R' (k1.trans g1 k') (Grow.trans k1 g1 g')⟩
  have k12 := k1.trans g1 k2
  have g12 := Grow.trans k1 g1 g2
  refine ⟨C, M2, e2, _, x, R2, h2, fun z e3 vz H3 M3 h3 R3 k3 g3 r3 => ?_, fun e env' H' M' xe R' k' g' => hx e env' H' M' xe R' (k12.trans g12 k') (Grow.trans k12 g12 g')⟩
  obtain ⟨o, q, kd⟩ := h3
  obtain ⟨c, r, e, g, z⟩ := dget_rep (k3.rep g3 (k2.rep g2 r1)) (k3.rep g3 r2) q
  cases e
  refine ⟨r, g, hk _ _ _ H3 M3 kd R3 (k12.trans g12 k3) (Grow.trans k12 g12 g3) ?_⟩
  rcases z with ⟨rfl, rfl⟩ | ⟨d', v, rfl, rfl, rv⟩
  · exact r3
  · exact rv
/-- {} -/
theorem de_newI : PE X (.Dict [] [] pos) (upF X.K W (dC (.dI []))) := by
  refine pe_conv pe_dnewK fun σ H Q h => ?_
  obtain ⟨C, M, env, k, x, R, h, hk, hx⟩ := h
  exact fun p hp => R.finF (.refl _ _) (.refl _ _) h hk p _ _ (same_new hp) hp ⟨rfl, [], upd_same, rfl⟩
theorem de_newT : PE X (.Dict [] [] pos) (upF X.K W (dC (.dT []))) := by
  refine pe_conv pe_dnewT fun σ H Q h => ?_
  obtain ⟨C, M, env, k, x, R, h, hk, hx⟩ := h
  exact fun p hp => R.finF (.refl _ _) (.refl _ _) h hk p _ _ (same_new hp) hp ⟨rfl, [], upd_same, rfl⟩
end

/-! ### things of ours, changed -/
def mineD : Option Sl → Option D
  | some (.own d) => some d
  | some (.par d) => some d
  | _ => none
def putE (env : Env) (i : Nat) (d : D) : Env := match env[i]? with
  | some s => env.set i (s.put d)
  | none => env
theorem mine_some {o : Option Sl} {d : D} (h : mineD o = some d) : ∃ s, o = some s ∧ s.mine = true ∧ (s = .own d ∨ s = .par d) := by
  cases o with
  | none => cases h
  | some s =>
    cases s with
    | no => cases h
    | frz _ => cases h
    | own e => cases h; exact ⟨_, rfl, rfl, .inl rfl⟩
    | par e => cases h; exact ⟨_, rfl, rfl, .inr rfl⟩
theorem Rel.mineL {K : PySem.W.Frag} {C : Ctx} {M : AS} {env : Env} {σ : L2.St} {H : Hp} {i : Nat} {ds : List D} (R : Rel K C M env σ H) (h : mineD env[i]? = some (.lst ds)) :
    ∃ p vs, σ[i]? = some (some (.ref p)) ∧ M p ∧ H p = some (.lst vs) ∧ Reps K (fun a => C.G a ∨ M a) H ds vs ∧
      ∀ ds' vs', Reps K (fun a => C.G a ∨ M a) H ds' vs' → Rel K C M (putE env i (.lst ds')) σ (upd H p (.lst vs')) ∧ Keep M H (upd H p (.lst vs')) := by
  obtain ⟨s, e, hm, hs⟩ := mine_some h
  obtain ⟨p, d, v, h1, h2, h3, h4, h5⟩ := R.change e hm
  have hd : d = .lst ds := by
    rcases hs with rfl | rfl <;> rcases h2 with z | z <;> cases z <;> rfl
  subst hd
  obtain ⟨rfl, vs, hp, r⟩ := h4
  refine ⟨p, vs, h1, h3, hp, r, fun ds' vs' r' => ?_⟩
  have eE : putE env i (.lst ds') = env.set i (s.put (.lst ds')) := by unfold putE; rw [e]
  rw [eE]
  refine h5 _ (.lst ds') (fun a ha => upd_ne ha) (by rw [upd_same]; trivial) ⟨rfl, vs', upd_same, ?_⟩
  exact Reps.mono (fun a o e n => by rw [upd_ne fun (z : a = p) => n (.inr (z ▸ h3))]; exact e) (fun _ _ z => z) _ _ r'
theorem Rel.mineI {K : PySem.W.Frag} {C : Ctx} {M : AS} {env : Env} {σ : L2.St} {H : Hp} {i : Nat} {ds : List (Int × D)} (R : Rel K C M env σ H) (h : mineD env[i]? = some (.dI ds)) :
    ∃ p vs, σ[i]? = some (some (.ref p)) ∧ M p ∧ H p = some (.dK vs) ∧ RepI K (fun a => C.G a ∨ M a) H ds vs ∧
      ∀ ds' vs', RepI K (fun a => C.G a ∨ M a) H ds' vs' → Rel K C M (putE env i (.dI ds')) σ (upd H p (.dK vs')) ∧ Keep M H (upd H p (.dK vs')) := by
  obtain ⟨s, e, hm, hs⟩ := mine_some h
  obtain ⟨p, d, v, h1, h2, h3, h4, h5⟩ := R.change e hm
  have hd : d = .dI ds := by
    rcases hs with rfl | rfl <;> rcases h2 with z | z <;> cases z <;> rfl
  subst hd
  obtain ⟨rfl, vs, hp, r⟩ := h4
  refine ⟨p, vs, h1, h3, hp, r, fun ds' vs' r' => ?_⟩
  have eE : putE env i (.dI ds') = env.set i (s.put (.dI ds')) := by unfold putE; rw [e]
  rw [eE]
  refine h5 _ (.dI ds') (fun a ha => upd_ne ha) (by rw [upd_same]; trivial) ⟨rfl, vs', upd_same, ?_⟩
  exact RepI.mono (fun a o e n => by rw [upd_ne fun (z : a = p) => n (.inr (z ▸ h3))]; exact e) (fun _ _ z => z) _ _ r'
theorem Rel.mineT {K : PySem.W.Frag} {C : Ctx} {M : AS} {env : Env} {σ : L2.St} {H : Hp} {i : Nat} {ds : List (List Int × D)} (R : Rel K C M env σ H) (h : mineD env[i]? = some (.dT ds)) :
    ∃ p vs, σ[i]? = some (some (.ref p)) ∧ M p ∧ H p = some (.dT vs) ∧ RepT K (fun a => C.G a ∨ M a) H ds vs ∧
      ∀ ds' vs', RepT K (fun a => C.G a ∨ M a) H ds' vs' → Rel K C M (putE env i (.dT ds')) σ (upd H p (.dT vs')) ∧ Keep M H (upd H p (.dT vs')) := by
  obtain ⟨s, e, hm, hs⟩ := mine_some h
  obtain ⟨p, d, v, h1, h2, h3, h4, h5⟩ := R.change e hm
  have hd : d = .dT ds := by
    rcases hs with rfl | rfl <;> rcases h2 with z | z <;> cases z <;> rfl
  subst hd
  obtain ⟨rfl, vs, hp, r⟩ := h4
  refine ⟨p, vs, h1, h3, hp, r, fun ds' vs' r' => ?_⟩
  have eE : putE env i (.dT ds') = env.set i (s.put (.dT ds')) := by unfold putE; rw [e]
  rw [eE]
  refine h5 _ (.dT ds') (fun a ha => upd_ne ha) (by rw [upd_same]; trivial) ⟨rfl, vs', upd_same, ?_⟩
  exact RepT.mono (fun a o e n => by rw [upd_ne fun (z : a = p) => n (.inr (z ▸ h3))]; exact e) (fun _ _ z => z) _ _ r'

def dApp (i : Nat) (te : DE) : DE := fun env k x => (∃ ds, mineD env[i]? = some (.lst ds)) ∧ te env (fun d e => ∃ ds, mineD e[i]? = some (.lst ds) ∧ ds.length < 16777216 ∧ k .non (putE e i (.lst (ds ++ [d])))) x
def dPop (i : Nat) : DE := fun env k _ => ∃ ds d, mineD env[i]? = some (.lst (ds ++ [d])) ∧ k d (putE env i (.lst ds))
def dPopAt (i : Nat) (te : DE) : DE := fun env k x => (∃ ds, mineD env[i]? = some (.lst ds)) ∧ te env (fun j e => ∃ ds n d, j = .int n ∧ mineD e[i]? = some (.lst ds) ∧ 0 ≤ n ∧ n < 1000000000 ∧ ds[n.toNat]? = some d ∧ k d (putE e i (.lst (ds.eraseIdx n.toNat)))) x
def dIns0 (i : Nat) (te : DE) : DE := fun env k x => (∃ ds, mineD env[i]? = some (.lst ds)) ∧ te env (fun d e => ∃ ds, mineD e[i]? = some (.lst ds) ∧ ds.length < 16777216 ∧ k .non (putE e i (.lst (d :: ds)))) x
/-- xs[j] = v: v first -/
def sSetL (i : Nat) (ti tv : DE) : DS := fun k env => tv env (fun d e => (∃ ds, mineD e[i]? = some (.lst ds)) ∧ ti e (fun j e2 => ∃ ds n m, j = .int n ∧ mineD e2[i]? = some (.lst ds) ∧ ixN ds.length n = some m ∧ k.nx (putE e2 i (.lst (ds.set m d)))) k.ex) k.ex
def dputD : D → D → D → Option D
  | .dI kvs, .int k, d => some (.dI (asPut kvs k d))
  | .dT kvs, .tup ds, d => (intsOf ds).map fun ns => .dT (asPut kvs ns d)
  | _, _, _ => none
theorem dput_I (kvs : List (Int × D)) (k : Int) (d : D) : dputD (.dI kvs) (.int k) d = some (.dI (asPut kvs k d)) := rfl
theorem dput_T (kvs : List (List Int × D)) (ns : List Int) (d : D) : dputD (.dT kvs) (.tup (ns.map .int)) d = some (.dT (asPut kvs ns d)) := by
  show (intsOf (ns.map D.int)).map _ = _
  rw [intsOf_map]; rfl
def sizeD : D → Nat
  | .dI kvs => kvs.length
  | .dT kvs => kvs.length
  | _ => 0
/-- d[j] = v: v first -/
def sPutD (i : Nat) (ti tv : DE) : DS := fun k env => tv env (fun d e => (∃ c, mineD e[i]? = some c ∧ isDict c = true) ∧ ti e (fun j e2 => ∃ c c', mineD e2[i]? = some c ∧ sizeD c < 16777216 ∧ dputD c j d = some c' ∧ k.nx (putE e2 i c')) k.ex) k.ex
def sAugI (i : Nat) (te : DE) : DS := fun k env => ∃ n, env[i]? = some (.frz (.int n)) ∧ te env (fun d e => ∃ m, d = .int m ∧ k.nx (e.set i (.frz (.int (n + m))))) k.ex
/-- xs += ys -/
def sAugL (i : Nat) (te : DE) : DS := fun k env => (∃ ds, mineD env[i]? = some (.lst ds)) ∧ te env (fun d e => ∃ ds es, d = .lst es ∧ mineD e[i]? = some (.lst ds) ∧ ds.length + es.length ≤ 16777216 ∧ k.nx (putE e i (.lst (ds ++ es)))) k.ex

section
variable {X : Cx} {W : HW} {fr : Bool} {e : Expr} {st : Stmt} {te ti tv : DE} {i : Nat}
theorem de_app (h : PE X e (tBM X.K "list" rAppend (tVar i) (tCons (up X.K W te) tNil))) : PE X e (up X.K W (dApp i te)) := by
  refine pe_conv h fun σ H Q h => ?_
  obtain ⟨C, M, env, k, x, R, ⟨⟨ds0, h0⟩, h⟩, hk, hx⟩ := h
  obtain ⟨p, vs, s1, m1, h1, r1, _⟩ := R.mineL h0
  refine ⟨.ref p, s1, .inl ⟨rfl, vs, SqL.of h1⟩, C, M, env, _, x, R, h, fun d e2 v H2 M2 h2 R2 k2 g2 r2 => ?_, hx⟩
  obtain ⟨ds, h3, hz, kd⟩ := h2
  obtain ⟨p2, vs2, s2, m2, hp2, rr2, w⟩ := R2.mineL h3
  rw [s1] at s2
  cases s2
  obtain ⟨R3, k3⟩ := w _ _ (rr2.append (.one r2))
  refine ⟨p, vs2, v, rfl, rfl, hp2, by rw [rr2.length, line_eq]; exact hz, hk .non _ .non _ M2 kd R3 (k2.trans g2 k3) g2 rfl⟩
theorem de_pop (h : PE X e (tBM0 X.K "list" rPop (tVar i))) : PE X e (up X.K W (dPop i)) := by
  refine pe_conv h fun σ H Q h => ?_
  obtain ⟨C, M, env, k, x, R, ⟨ds, d, h0, kd⟩, hk, hx⟩ := h
  obtain ⟨p, vs, s1, m1, h1, r1, w⟩ := R.mineL h0
  refine ⟨.ref p, s1, .inl ⟨rfl, vs, SqL.of h1⟩, ?_⟩
  have hl := r1.length
  rw [List.length_append, List.length_singleton] at hl
  have e1 : (ds ++ [d])[ds.length]? = some d := by simp
  obtain ⟨v, hv, rv⟩ := r1.get e1
  have rd : Reps X.K (fun a => C.G a ∨ M a) H ds vs.dropLast := by
    have := r1.take ds.length
    rw [List.take_left, show vs.take ds.length = vs.dropLast by rw [List.dropLast_eq_take, hl]; rfl] at this
    exact this
  obtain ⟨R3, k3⟩ := w _ _ rd
  refine ⟨p, vs, v, rfl, rfl, h1, by rw [hl, Nat.add_sub_cancel]; exact hv, hk d _ v _ M kd R3 k3 (.refl _ _) ?_⟩
  exact k3.rep (.refl _ _) rv
theorem de_popAt (h : PE X e (tBM X.K "list" rPopAt (tVar i) (tCons (up X.K W te) tNil))) : PE X e (up X.K W (dPopAt i te)) := by
  refine pe_conv h fun σ H Q h => ?_
  obtain ⟨C, M, env, k, x, R, ⟨⟨ds0, h0⟩, h⟩, hk, hx⟩ := h
  obtain ⟨p, vs, s1, m1, h1, r1, _⟩ := R.mineL h0
  refine ⟨.ref p, s1, .inl ⟨rfl, vs, SqL.of h1⟩, C, M, env, _, x, R, h, fun d e2 v H2 M2 h2 R2 k2 g2 r2 => ?_, hx⟩
  obtain ⟨ds, n, d', rfl, h3, n0, n1, hd, kd⟩ := h2
  have r2 : v = .int n := r2
  subst r2
  obtain ⟨p2, vs2, s2, m2, hp2, rr2, w⟩ := R2.mineL h3
  rw [s1] at s2
  cases s2
  obtain ⟨v', hv', rv'⟩ := rr2.get hd
  obtain ⟨R3, k3⟩ := w _ _ (rr2.eraseIdx n.toNat)
  have hl : n.toNat < ds.length := (List.getElem?_eq_some_iff.mp hd).1
  refine ⟨p, vs2, n, n.toNat, v', rfl, rfl, hp2, by omega, by omega, seqIndex_of n0 (by rw [rr2.length]; omega), hv', hk d' _ v' _ M2 kd R3 (k2.trans g2 k3) g2 (k3.rep (.refl _ _) rv')⟩
theorem de_ins0 {r : V → List V → Hp → VK → Prop} (hr : r = fun x vs H Q => ∃ (l : Addr) (xs : List V) (i : Int) (y : V), x = .ref l ∧ vs = [.int i, y] ∧ H l = some (.lst xs) ∧ xs.length < sizeLine ∧ 0 ≤ i ∧ i < 2 ^ 63 ∧
    Q .non (upd H l (.lst (xs.take i.toNat ++ [y] ++ xs.drop i.toNat)))) (h : PE X e (tBM X.K "list" r (tVar i) (tCons (tC (.int 0)) (tCons (up X.K W te) tNil)))) : PE X e (up X.K W (dIns0 i te)) := by
  subst hr
  refine pe_conv h fun σ H Q h => ?_
  obtain ⟨C, M, env, k, x, R, ⟨⟨ds0, h0⟩, h⟩, hk, hx⟩ := h
  obtain ⟨p, vs, s1, m1, h1, r1, _⟩ := R.mineL h0
  refine ⟨.ref p, s1, .inl ⟨rfl, vs, SqL.of h1⟩, C, M, env, _, x, R, h, fun d e2 v H2 M2 h2 R2 k2 g2 r2 => ?_, hx⟩
  obtain ⟨ds, h3, hz, kd⟩ := h2
  obtain ⟨p2, vs2, s2, m2, hp2, rr2, w⟩ := R2.mineL h3
  rw [s1] at s2
  cases s2
  obtain ⟨R3, k3⟩ := w (d :: ds) (v :: vs2) (.cons r2 rr2)
  refine ⟨p, vs2, 0, v, rfl, rfl, hp2, by rw [rr2.length, line_eq]; exact hz, by decide, by decide, ?_⟩
  exact hk .non _ .non _ M2 kd R3 (k2.trans g2 k3) g2 rfl
theorem ds_setL (h : PS X st (tAsg (up X.K W tv) (gSub (tVar i) (up X.K W ti) rSetL))) : PS X st (upS X.K W fr (sSetL i ti tv)) := by
  refine ps_conv h fun D σ H h => ?_
  obtain ⟨C, M, env, k, R, h, hn, hr, hx, _⟩ := h
  refine ⟨C, M, env, _, _, R, h, fun d e1 v H1 M1 h1 R1 k1 g1 r1 => ?_, fun e env' H' M' xe R' k' g' => hx e env' σ H' M' xe R' k' g'⟩
  obtain ⟨⟨ds0, h0⟩, h1⟩ := h1
  obtain ⟨p, vs, s1, m1, hp1, rr1, _⟩ := R1.mineL h0
  refine ⟨.ref p, s1, C, M1, e1, _, _, R1, h1, fun j e2 v2 H2 M2 h2 R2 k2 g2 r2 => ?_, fun e env' H' M' xe R' k' g' => hx e env' σ H' M' xe R' (k1.trans g1 k') (Grow.trans k1 g1 g')⟩
  obtain ⟨ds, n, m, rfl, h3, hm, kd⟩ := h2
  have r2 : v2 = .int n := r2
  subst r2
  obtain ⟨p2, vs2, s2, m2, hp2, rr2, w⟩ := R2.mineL h3
  rw [s1] at s2
  cases s2
  obtain ⟨R3, k3⟩ := w _ _ (rr2.set (i := m) (k2.rep g2 r1))
  exact ⟨p, vs2, n, m, rfl, rfl, hp2, by rw [rr2.length]; exact hm, hn _ _ _ M2 kd R3 ((k1.trans g1 k2).trans (Grow.trans k1 g1 g2) k3) (Grow.trans k1 g1 g2)⟩
theorem ds_putD (h : PS X st (sDPut (tVar i) (up X.K W ti) (up X.K W tv))) : PS X st (upS X.K W fr (sPutD i ti tv)) := by
  refine ps_conv h fun D σ H h => ?_
  obtain ⟨C, M, env, k, R, h, hn, hr, hx, _⟩ := h
  refine ⟨C, M, env, _, _, R, h, fun d e1 v H1 M1 h1 R1 k1 g1 r1 => ?_, fun e env' H' M' xe R' k' g' => hx e env' σ H' M' xe R' k' g'⟩
  obtain ⟨⟨c0, h0, hc0⟩, h1⟩ := h1
  have s1 : ∃ p, σ[i]? = some (some (.ref p)) := by
    cases c0 with
    | dI _ => obtain ⟨p, vs, s1, _⟩ := R1.mineI h0; exact ⟨p, s1⟩
    | dT _ => obtain ⟨p, vs, s1, _⟩ := R1.mineT h0; exact ⟨p, s1⟩
    | non | bl _ | int _ | str _ | tup _ | lst _ | scr _ | obj _ _ => cases hc0
  obtain ⟨p, s1⟩ := s1
  refine ⟨.ref p, s1, C, M1, e1, _, _, R1, h1, fun j e2 v2 H2 M2 h2 R2 k2 g2 r2 => ?_, fun e env' H' M' xe R' k' g' => hx e env' σ H' M' xe R' (k1.trans g1 k') (Grow.trans k1 g1 g')⟩
  obtain ⟨c, c', h3, hz, hput, kd⟩ := h2
  have r1' := k2.rep g2 r1
  have k12 := k1.trans g1 k2
  have g12 := Grow.trans k1 g1 g2
  cases c with
  | dI kvs =>
    obtain ⟨p2, ws, s2, m2, hp2, rr2, w⟩ := R2.mineI h3
    rw [s1] at s2
    cases s2
    cases j with
    | int n =>
      cases hput
      have r2 : v2 = .int n := r2
      subst r2
      obtain ⟨R3, k3⟩ := w _ _ (rr2.put (k := n) r1')
      exact ⟨p, _, rfl, DPut.k (k := kI n) hp2 (by rw [rr2.length, line_eq]; exact hz), hn _ _ _ M2 kd R3 (k12.trans g12 k3) g12⟩
    | non | bl _ | str _ | tup _ | lst _ | dI _ | dT _ | scr _ | obj _ _ => cases hput
  | dT kvs =>
    obtain ⟨p2, ws, s2, m2, hp2, rr2, w⟩ := R2.mineT h3
    rw [s1] at s2
    cases s2
    cases j with
    | tup ds =>
      have hput : (intsOf ds).map (fun ns => FX.D.dT (asPut kvs ns d)) = some c' := hput
      cases e : intsOf ds with
      | none => rw [e] at hput; cases hput
      | some ns =>
        rw [e] at hput
        cases hput
        have e := ints_mapM e
        subst e
        obtain ⟨b, vs, rfl, nb, hb, rb⟩ := r2
        have := Reps.ints.mp rb
        subst this
        obtain ⟨R3, k3⟩ := w _ _ (rr2.put (k := ns) r1')
        exact ⟨p, _, rfl, DPut.t (k := kT ns) hp2 (by rw [kT_tup]; exact hb) (by rw [rr2.length, line_eq]; exact hz), hn _ _ _ M2 kd R3 (k12.trans g12 k3) g12⟩
    | non | bl _ | int _ | str _ | lst _ | dI _ | dT _ | scr _ | obj _ _ => cases hput
  | non | bl _ | int _ | str _ | tup _ | lst _ | scr _ | obj _ _ => cases j <;> cases hput
theorem ds_augI (h : PS X st (tAug i (up X.K W te) (ipI fun a b => a + b))) : PS X st (upS X.K W fr (sAugI i te)) := by
  refine ps_conv h fun D σ H h => ?_
  obtain ⟨C, M, env, k, R, ⟨n, he, h⟩, hn, hr, hx, _⟩ := h
  obtain ⟨adr, _, hs⟩ := R.sl
  obtain ⟨v, h1, h2⟩ := hs i _ he
  have h2 : v = .int n := h2
  subst h2
  refine ⟨.int n, h1, C, M, env, _, _, R, h, fun d e1 v H1 M1 h1 R1 k1 g1 r1 => ?_, fun e env' H' M' xe R' k' g' => hx e env' σ H' M' xe R' k' g'⟩
  obtain ⟨m, rfl, kd⟩ := h1
  have r1 : v = .int m := r1
  subst r1
  exact ⟨n, m, rfl, rfl, hn _ _ H1 M1 kd (R1.storeF (d := .int (n + m)) (v := .int (n + m)) rfl) k1 g1⟩
theorem ds_augL (h : PS X st (tAug i (upF X.K W te) rExt2)) : PS X st (upS X.K W fr (sAugL i te)) := by
  refine ps_conv h fun D σ H h => ?_
  obtain ⟨C, M, env, k, R, ⟨⟨ds0, h0⟩, h⟩, hn, hr, hx, _⟩ := h
  obtain ⟨p, vs, s1, m1, hp1, rr1, _⟩ := R.mineL h0
  refine ⟨.ref p, s1, C, M, env, _, _, R, h, fun d e1 q v H1 M1 h1 R1 k1 g1 hq c => ?_, fun e env' H' M' xe R' k' g' => hx e env' σ H' M' xe R' k' g'⟩
  obtain ⟨ds, es, rfl, h3, hz, kd⟩ := h1
  obtain ⟨rfl, ws, hw, rw'⟩ := c
  obtain ⟨p2, vs2, s2, m2, hp2, rr2, w⟩ := R1.drop.mineL h3
  rw [s1] at s2
  cases s2
  have rw2 : Reps X.K (fun a => C.G a ∨ M1 a) H1 es ws := Reps.mono (fun _ _ e _ => e) (fun a _ z => z.elim (fun z => .inl (.inl z)) .inr) _ _ rw'
  obtain ⟨R3, k3⟩ := w _ _ (rr2.append rw2)
  refine ⟨p, q, vs2, ws, rfl, rfl, hp2, hw, by rw [rr2.length, rw2.length, line_eq]; exact hz, ?_⟩
  have e1 : σ.set i (some (V.ref p)) = σ := by
    apply List.ext_getElem?
    intro j
    by_cases hj : i = j
    · subst hj; rw [set_get (List.getElem?_eq_some_iff.mp s1).1, s1]
    · rw [List.getElem?_set_ne hj]
  show D.nx (σ.set i (some (V.ref p))) _
  rw [e1]
  exact hn _ _ _ M1 kd R3 (k1.trans g1 k3) g1
end
end FX

set_option Elab.async false
set_option linter.all false
set_option maxRecDepth 100000
set_option maxHeartbeats 1000000
/-! FxG: several targets at once; dicts walked; defs and their calls -/
namespace FX
open PySem PySem.Spec PyProof.Rows L2

/-! ### a, b = x, y: plain data, or (true) new mutable things -/
def Ctx.adds (C : Ctx) (ps : List Addr) : Ctx := { C with G := fun a => C.G a ∨ a ∈ ps }
theorem adds_nil (C : Ctx) : C.adds [] = C := by
  unfold Ctx.adds
  have : (fun a => C.G a ∨ a ∈ ([] : List Addr)) = C.G := by funext a; simp
  rw [this]
theorem adds_cons (C : Ctx) (p : Addr) (ps : List Addr) : (C.add p).adds ps = C.adds (p :: ps) := by
  unfold Ctx.adds Ctx.add
  congr 1
  funext a
  simp [or_assoc]
theorem adds_add (C : Ctx) (p : Addr) (ps : List Addr) : C.adds (p :: ps) = (C.adds ps).add p := by
  unfold Ctx.adds Ctx.add
  congr 1
  funext a
  simp only [List.mem_cons, eq_iff_iff]
  constructor
  · rintro (h | h | h)
    · exact .inl (.inl h)
    · exact .inr h
    · exact .inl (.inr h)
  · rintro ((h | h) | h)
    · exact .inl h
    · exact .inr (.inr h)
    · exact .inr (.inl h)
/-- the values of several right sides -/
inductive MReps (K : PySem.W.Frag) (Av : AS) (H : Hp) : List Bool → List D → List V → List Addr → Prop
  | nil : MReps K Av H [] [] [] []
  | frz {ms ds vs ps d v} (h : Rep K Av H d v) (t : MReps K Av H ms ds vs ps) : MReps K Av H (false :: ms) (d :: ds) (v :: vs) ps
  | own {ms ds vs ps d v p} (h : Cont K Av H p d v) (t : MReps K Av H ms ds vs ps) : MReps K Av H (true :: ms) (d :: ds) (v :: vs) (p :: ps)
theorem MReps.mono {K : PySem.W.Frag} {Av Bv : AS} {H H' : Hp} {ms : List Bool} {ds : List D} {vs : List V} {ps : List Addr} (h : MReps K Av H ms ds vs ps) (hp : ∀ p ∈ ps, ∀ o, H p = some o → H' p = some o) (hk : ∀ a o, H a = some o → ¬ Av a → H' a = some o) (ha : ∀ a, H a ≠ none → Bv a → Av a) : MReps K Bv H' ms ds vs ps := by
  induction h with
  | nil => exact .nil
  | frz h t ih => exact .frz (Rep.mono hk ha _ _ h) (ih hp)
  | own h t ih => exact .own (h.mono (hp _ List.mem_cons_self) hk ha) (ih fun p hm => hp p (List.mem_cons_of_mem _ hm))
def upM (K : PySem.W.Frag) (W : HW) (ms : List Bool) (t : DA) : TA := fun σ H Q => ∃ (C : Ctx) (M : AS) (env : Env) (k : List D → Env → Prop) (x : XW), Rel K C M env σ H ∧ t env k x ∧
  (∀ ds env' vs ps H' M', k ds env' → Rel K (C.adds ps) M' env' σ H' → Keep M H H' → Grow M H M' → ps.Nodup → (∀ p ∈ ps, H p = none) → MReps K (fun a => (C.adds ps).G a ∨ M' a) H' ms ds vs ps → Q vs H') ∧
  (∀ e env' H' M', x e env' → Rel K C M' env' σ H' → Keep M H H' → Grow M H M' → W e H')
theorem Rel.drops {K : PySem.W.Frag} {M : AS} {env : Env} {σ : L2.St} {H : Hp} : ∀ {ps : List Addr} {C : Ctx}, Rel K (C.adds ps) M env σ H → Rel K C M env σ H
  | [], C, R => by rw [adds_nil] at R; exact R
  | p :: ps, C, R => by
    rw [adds_add] at R
    exact Rel.drops R.drop
section
variable {X : Cx} {W : HW} {e : Expr} {es : List Expr} {ta : DE} {t : DA} {ms : List Bool}
theorem dm_nil : PA X [] (upM X.K W [] daNil) := by
  refine pa_conv pa_nil fun σ H Q h => ?_
  obtain ⟨C, M, env, k, x, R, kd, hk, hx⟩ := h
  exact hk [] env [] [] H M kd (by rw [adds_nil]; exact R) (.refl _ _) (.refl _ _) .nil (fun _ z => nomatch z) .nil
theorem dm_frz (ha : PE X e (up X.K W ta)) (hr : PA X es (upM X.K W ms t)) (hs : starEach (e :: es) X.env = (false, eval e X.env) :: starEach es X.env := by rfl) : PA X (e :: es) (upM X.K W (false :: ms) (daCons ta t)) := by
  refine pa_conv (pa_cons ha hr hs) fun σ H Q h => ?_
  obtain ⟨C, M, env, k, x, R, h, hk, hx⟩ := h
  refine ⟨C, M, env, _, x, R, h, fun a e1 va H1 M1 h1 R1 k1 g1 r1 => ?_, hx⟩
  refine ⟨C, M1, e1, _, x, R1, h1, fun ds e2 vs ps H2 M2 h2 R2 k2 g2 nd hp r2 => ?_, fun e env' H' M' xe R' k' g' => hx e env' H' M' xe R' (k1.trans g1 k') (Grow.trans k1 g1 g')⟩
  have hp0 : ∀ p ∈ ps, H p = none := fun p hm => by
    cases q : H p with
    | none => rfl
    | some o => exact absurd (hp p hm) (k1.th p (by rw [q]; simp))
  refine hk _ e2 _ ps H2 M2 h2 R2 (k1.trans g1 k2) (Grow.trans k1 g1 g2) nd hp0 (.frz ?_ r2)
  exact Rep.mono (fun a o e n => k2.kp a o e fun z => n (.inr z)) (fun a hn z => z.elim (fun z => z.elim .inl fun z => absurd (hp a z) hn) fun z => (g2 a z).elim .inr fun q => absurd q hn) _ _ r1
theorem dm_own (ha : PE X e (upF X.K W ta)) (hr : PA X es (upM X.K W ms t)) (hs : starEach (e :: es) X.env = (false, eval e X.env) :: starEach es X.env := by rfl) : PA X (e :: es) (upM X.K W (true :: ms) (daCons ta t)) := by
  refine pa_conv (pa_cons ha hr hs) fun σ H Q h => ?_
  obtain ⟨C, M, env, k, x, R, h, hk, hx⟩ := h
  refine ⟨C, M, env, _, x, R, h, fun a e1 p va H1 M1 h1 R1 k1 g1 hpn c1 => ?_, hx⟩
  refine ⟨C.add p, M1, e1, _, x, R1, h1, fun ds e2 vs ps H2 M2 h2 R2 k2 g2 nd hp r2 => ?_, fun e env' H' M' xe R' k' g' => hx e env' H' M' xe R'.drop (k1.trans g1 k') (Grow.trans k1 g1 g')⟩
  have hp0 : ∀ q ∈ ps, H q = none := fun q hm => by
    cases z : H q with
    | none => rfl
    | some o => exact absurd (hp q hm) (k1.th q (by rw [z]; simp))
  rw [adds_cons] at R2 r2
  have np : p ∉ ps := fun z => c1.there (hp p z)
  refine hk _ e2 _ (p :: ps) H2 M2 h2 R2 (k1.trans g1 k2) (Grow.trans k1 g1 g2) (List.nodup_cons.mpr ⟨np, nd⟩) (fun q hq => (List.mem_cons.mp hq).elim (fun z => z ▸ hpn) (hp0 q)) (.own ?_ r2)
  have nm : ¬ M1 p := fun z => R1.gm p (.inr rfl) z
  refine c1.mono (fun o e => k2.kp p o e nm) (fun a o e n => k2.kp a o e fun z => n (.inr z)) fun a hn z => ?_
  rcases z with z | z
  · rcases z with z | z
    · exact .inl (.inl z)
    · rcases List.mem_cons.mp z with z | z
      · exact .inl (.inr z)
      · exact absurd (hp a z) hn
  · exact (g2 a z).elim .inr fun q => absurd q hn
end
def setM : List Bool → Env → List Nat → List D → Env
  | false :: ms, env, i :: is, d :: ds => setM ms (env.set i (.frz d)) is ds
  | true :: ms, env, i :: is, d :: ds => setM ms (env.set i (.own d)) is ds
  | _, env, _, _ => env
def setV : L2.St → List Nat → List V → L2.St
  | σ, i :: is, v :: vs => setV (σ.set i (some v)) is vs
  | σ, _, _ => σ
theorem Rel.stores {K : PySem.W.Frag} {C : Ctx} {H : Hp} : ∀ {ms : List Bool} {ds : List D} {vs : List V} {ps : List Addr} {is : List Nat} {M : AS} {env : Env} {σ : L2.St}, Rel K (C.adds ps) M env σ H → ps.Nodup → (∀ p ∈ ps, ¬ C.B p ∧ ¬ C.G p) → MReps K (fun a => (C.adds ps).G a ∨ M a) H ms ds vs ps →
    ∃ M', Rel K C M' (setM ms env is ds) (setV σ is vs) H ∧ ∀ a, M' a → M a ∨ a ∈ ps
  | _, _, _, _, is, M, env, σ, R, nd, hp, .nil => by
    rw [adds_nil] at R
    refine ⟨M, ?_, fun a h => .inl h⟩
    cases is <;> exact R
  | _, _, _, _, [], M, env, σ, R, nd, hp, .frz h t => ⟨M, Rel.drops R, fun a h => .inl h⟩
  | _, _, _, _, i :: is, M, env, σ, R, nd, hp, .frz h t => by
    obtain ⟨M', R', g⟩ := Rel.stores (is := is) (R.storeF (i := i) h) nd hp t
    exact ⟨M', R', g⟩
  | _, _, _, _, [], M, env, σ, R, nd, hp, .own h t => ⟨M, Rel.drops R, fun a h => .inl h⟩
  | _, _, _, p :: ps, i :: is, M, env, σ, R, nd, hp, .own h t => by
    rw [adds_add] at R h t
    have nd' := List.nodup_cons.mp nd
    have R1 := R.storeO (i := i) h (hp p List.mem_cons_self).1 fun z => z.elim (hp p List.mem_cons_self).2 nd'.1
    have t1 : MReps K (fun a => (C.adds ps).G a ∨ (M a ∨ a = p)) H _ _ _ ps := t.mono (fun _ _ _ e => e) (fun _ _ e _ => e) fun a _ z => by
      rcases z with z | z | z
      · exact .inl (.inl z)
      · exact .inr z
      · exact .inl (.inr z)
    obtain ⟨M', R', g⟩ := Rel.stores (is := is) R1 nd'.2 (fun q hq => hp q (List.mem_cons_of_mem _ hq)) t1
    refine ⟨M', R', fun a ha => ?_⟩
    rcases g a ha with (z | z) | z
    · exact .inl z
    · exact .inr (by rw [z]; exact List.mem_cons_self)
    · exact .inr (List.mem_cons_of_mem _ z)
/-- names = right sides -/
def sPar (ms : List Bool) (is : List Nat) (t : DA) : DS := fun k env => t env (fun ds e => k.nx (setM ms e is ds)) k.ex
theorem sim_par {K : PySem.W.Frag} {W : HW} {fr : Bool} {ms : List Bool} {is : List Nat} {t : DA} {D : Ends} {σ : L2.St} {H : Hp} (h : upS K W fr (sPar ms is t) D σ H) : upM K W ms t σ H (fun vs H1 => vs.length = ms.length ∧ D.nx (setV σ is vs) H1 ∧ ∀ p, H1 p = none → D.nx (setV σ is vs) (upd H1 p (.tup vs))) := by
  obtain ⟨C, M, env, k, R, h, hn, hr, hx, _⟩ := h
  refine ⟨C, M, env, _, _, R, h, fun ds e1 vs ps H1 M1 h1 R1 k1 g1 nd hp r1 => ?_, fun e env' H' M' xe R' k' g' => hx e env' σ H' M' xe R' k' g'⟩
  obtain ⟨M', R', g⟩ := R1.stores (is := is) nd (fun p hm => ⟨fun z => R.bh p z (hp p hm), fun z => R.gh p z (hp p hm)⟩) r1
  have gr : Grow M H M' := fun a z => (g a z).elim (g1 a) fun z => .inr (hp a z)
  refine ⟨?_, hn _ _ _ M' h1 R' k1 gr, fun q hq => hn _ _ _ M' h1 (R'.same (same_new hq)) (k1.trans g1 (.same (same_new hq))) gr⟩
  have : ∀ {ms : List Bool} {ds : List FX.D} {vs : List V} {ps : List Addr} {Av : AS}, MReps K Av H1 ms ds vs ps → vs.length = ms.length := by
    intro ms ds vs ps Av h
    induction h with
    | nil => rfl
    | frz h t ih => simp [ih]
    | own h t ih => simp [ih]
  exact this r1
section
variable {X : Cx} {W : HW} {fr : Bool} {t : DA} {a b c : Expr} {pos px py pz pt pt2 : Pos} {kt k2 : Nat}
theorem ds_par2 {i j : Nat} {x y : Str} {ms : List Bool} (hm : ms.length = 2) (h : PS X (.Assign [.Tuple [.Name x px, .Name y py] kt pt] (.Tuple [a, b] k2 pt2) pos) (tPar i j (upM X.K W ms t))) : PS X (.Assign [.Tuple [.Name x px, .Name y py] kt pt] (.Tuple [a, b] k2 pt2) pos) (upS X.K W fr (sPar ms [i, j] t)) := by
  refine ps_conv h fun D σ H h => ?_
  obtain ⟨C, M, env, k, x, R, h, hk, hx⟩ := sim_par h
  refine ⟨C, M, env, k, x, R, h, fun ds e1 vs ps H1 M1 h1 R1 k1 g1 nd hp r1 => ?_, hx⟩
  obtain ⟨hl, h2, _⟩ := hk ds e1 vs ps H1 M1 h1 R1 k1 g1 nd hp r1
  rw [hm] at hl
  match vs, hl with
  | [v, w], _ => exact ⟨v, w, rfl, h2⟩
theorem ds_par3 {i j l : Nat} {x y z : Str} {ms : List Bool} (hm : ms.length = 3) (h : PS X (.Assign [.Tuple [.Name x px, .Name y py, .Name z pz] kt pt] (.Tuple [a, b, c] k2 pt2) pos) (tPar3 i j l (upM X.K W ms t))) : PS X (.Assign [.Tuple [.Name x px, .Name y py, .Name z pz] kt pt] (.Tuple [a, b, c] k2 pt2) pos) (upS X.K W fr (sPar ms [i, j, l] t)) := by
  refine ps_conv h fun D σ H h => ?_
  obtain ⟨C, M, env, k, x, R, h, hk, hx⟩ := sim_par h
  refine ⟨C, M, env, k, x, R, h, fun ds e1 vs ps H1 M1 h1 R1 k1 g1 nd hp r1 => ?_, hx⟩
  obtain ⟨hl, h2, _⟩ := hk ds e1 vs ps H1 M1 h1 R1 k1 g1 nd hp r1
  rw [hm] at hl
  match vs, hl with
  | [u, v, w], _ => exact ⟨u, v, w, rfl, h2⟩
/-- by a tuple that is laid (names that are captured) -/
def gNames : List Nat → TGs
  | [] => gNil
  | i :: is => gCons (gName i) (gNames is)
theorem gNames_of : ∀ {is : List Nat} {vs : List V} {σ : L2.St} {H : Hp} {Q : L2.St → Hp → Prop}, vs.length = is.length → Q (setV σ is vs) H → gNames is vs σ H Q
  | [], [], _, _, _, _, q => ⟨rfl, q⟩
  | i :: is, v :: vs, σ, H, Q, hl, q => ⟨v, vs, rfl, gNames_of (is := is) (by simpa using hl) q⟩
  | [], _ :: _, _, _, _, hl, _ => by simp at hl
  | _ :: _, [], _, _, _, hl, _ => by simp at hl
theorem ds_parT {st : Stmt} {ms : List Bool} {is : List Nat} {n : Nat} (hn : ms.length = n) (hi : is.length = n) (hs : n ≤ 1000) (h : PS X st (tAsg (tTup (upM X.K W ms t)) (gTup X.K n (gNames is)))) : PS X st (upS X.K W fr (sPar ms is t)) := by
  refine ps_conv h fun D σ H h => ?_
  obtain ⟨C, M, env, k, x, R, h, hk, hx⟩ := sim_par h
  refine ⟨C, M, env, k, x, R, h, fun ds e1 vs ps H1 M1 h1 R1 k1 g1 nd hp r1 => ?_, hx⟩
  obtain ⟨hl, _, h2⟩ := hk ds e1 vs ps H1 M1 h1 R1 k1 g1 nd hp r1
  refine ⟨by rw [hl, hn, line_eq]; omega, fun p hp => ?_⟩
  exact ⟨p, vs, rfl, SqT.of upd_same, hl.trans hn, gNames_of (by rw [hl, hn, hi]) (h2 p hp)⟩
/-- names = a tuple -/
def sUnp (is : List Nat) (te : DE) : DS := fun k env => te env (fun d e => ∃ ds, d = .tup ds ∧ ds.length = is.length ∧ k.nx (setAll e is ds)) k.ex
theorem ds_unp {tg e : Expr} {te : DE} {is vs : List Nat} (he : PE X e (up X.K W te)) (hg : PG X tg (upG X.K vs (dgTup is))) (hs : swapsWithSole [tg] e pos.line X.env = pure false := by rfl) (hw : swappedStores [tg] e X.env = pure none := by rfl)
    (h1 : (assignEach [tg] X.env).map (·.2) = [assign tg X.env] := by rfl) : PS X (.Assign [tg] e pos) (upS X.K W fr (sUnp is te)) := by
  refine ps_conv (ps_asg he hg hs hw h1) fun D σ H h => ?_
  obtain ⟨C, M, env, k, R, h, hn, hr, hx, _⟩ := h
  refine ⟨C, M, env, _, _, R, h, fun d e1 v H1 M1 h1 R1 k1 g1 r1 => ?_, fun e env' H' M' xe R' k' g' => hx e env' σ H' M' xe R' k' g'⟩
  exact ⟨C, M1, e1, d, _, R1, r1, h1, fun env' σ' hq R' _ _ => hn env' σ' H1 M1 hq R' k1 g1⟩
end

/-! ### defs -/
/-- args; the value; an exception -/
abbrev F0 := List D → (D → Prop) → (Ex → Prop) → Prop
/-- the first argument is a mutable thing: what it holds behind -/
abbrev F1 := D → List D → (D → D → Prop) → (Ex → D → Prop) → Prop
def RetOk (K : PySem.W.Frag) (fr : Bool) (Av : AS) (H : Hp) (H' : Hp) (d : D) (v : V) : Prop :=
  if fr = true then ∃ p, H p = none ∧ Cont K (fun a => Av a ∨ a = p) H' p d v else Rep K Av H' d v
def spF0 (K : PySem.W.Frag) (EW : XK → HW) (fr : Bool) (φ : F0) : Sp := fun vs H Q E => ∃ (Av : AS) (ds : List D) (k : D → Prop) (x : Ex → Prop), AvT Av H ∧ Reps K Av H ds vs ∧ φ ds k x ∧
  (∀ d v H', k d → Same H H' → RetOk K fr Av H H' d v → Q v H') ∧ (∀ e H', x e → Same H H' → EW E e H')
def spF1 (K : PySem.W.Frag) (EW : XK → HW) (φ : F1) : Sp := fun vs H Q E => ∃ (Av : AS) (p : Addr) (v0 : V) (vr : List V) (d0 : D) (ds : List D) (k : D → D → Prop) (x : Ex → D → Prop), AvT Av H ∧ Av p ∧ vs = v0 :: vr ∧ Cont K Av H p d0 v0 ∧ Reps K Av H ds vr ∧ φ d0 ds k x ∧
  (∀ d d0' v H', k d d0' → Keep (fun a => a = p) H H' → Cont K Av H' p d0' v0 → RetOk K false Av H H' d v → Q v H') ∧ (∀ e d0' H', x e d0' → Keep (fun a => a = p) H H' → Cont K Av H' p d0' v0 → EW E e H')
/-- no exception leaves -/
abbrev EW0 : XK → HW := fun _ _ _ => False

section
variable {K : PySem.W.Frag} {W : HW} {C : Ctx} {M : AS} {env : Env} {σ : L2.St} {H : Hp} {Q : VK}
/-- f(..), all arguments read only -/
def dF0 (φ : F0) (t : DA) : DE := fun env k x => t env (fun ds e => φ ds (fun d => k d e) (fun y => x y e)) x
/-- f(bag, ..), the mutable thing in slot i -/
def dF1 (φ : F1) (i : Nat) (t : DA) : DE := fun env k x => (∃ c, mineD env[i]? = some c) ∧ t env (fun ds e => ∃ c, mineD e[i]? = some c ∧ φ c ds (fun d c' => k d (putE e i c')) (fun y c' => x y (putE e i c'))) x
theorem ret_fin {Av : AS} {H' : Hp} {d : D} {v : V} (R : Rel K C M env σ H) (s : Same H H') (r : RetOk K false (fun a => C.G a ∨ M a) H H' d v) : Rep K (fun a => C.G a ∨ M a) H' d v := r
theorem sim_f0 {φ : F0} {t : DA} {EW : XK → HW} {E : XK} (hW : ∀ e H, EW E e H → W e H) (hW' : ∀ e H, W e H → EW E e H) (h : up K W (dF0 φ t) σ H Q) : tCall (spF0 K EW false φ) [] E (upA K W t) σ H Q := by
  obtain ⟨C, M, env, k, x, R, h, hk, hx⟩ := h
  refine ⟨C, M, env, _, x, R, h, fun ds e1 vs H1 M1 h1 R1 k1 g1 r1 => ?_, hx⟩
  show spF0 K EW false φ (vs ++ []) H1 Q E
  rw [List.append_nil]
  refine ⟨_, ds, _, _, R1.avt, r1, h1, fun d v H' kd s r => ?_, fun e H' xe s => hW' e H' (hx e e1 H' M1 xe (R1.same s) (k1.trans g1 (.same s)) g1)⟩
  exact hk d e1 v H' M1 kd (R1.same s) (k1.trans g1 (.same s)) g1 r
theorem sim_f0F {φ : F0} {t : DA} {EW : XK → HW} {E : XK} (hW' : ∀ e H, W e H → EW E e H) (h : upF K W (dF0 φ t) σ H Q) : tCall (spF0 K EW true φ) [] E (upA K W t) σ H Q := by
  obtain ⟨C, M, env, k, x, R, h, hk, hx⟩ := h
  refine ⟨C, M, env, _, x, R, h, fun ds e1 vs H1 M1 h1 R1 k1 g1 r1 => ?_, hx⟩
  show spF0 K EW true φ (vs ++ []) H1 Q E
  rw [List.append_nil]
  refine ⟨_, ds, _, _, R1.avt, r1, h1, fun d v H' kd s r => ?_, fun e H' xe s => hW' e H' (hx e e1 H' M1 xe (R1.same s) (k1.trans g1 (.same s)) g1)⟩
  obtain ⟨p, hp, c⟩ := r
  exact R1.finF k1 g1 kd hk p v H' s hp c
theorem sim_f0D {φ : F0} {t : DA} {EW : XK → HW} {E : XK} (hW' : ∀ e H, W e H → EW E e H) (h : up K W (dF0 φ t) σ H Q) : tCall (spF0 K EW true φ) [] E (upA K W t) σ H Q := sim_f0F hW' (up_of_upF h)
theorem Rel.mineA {i : Nat} {c : D} (R : Rel K C M env σ H) (h : mineD env[i]? = some c) :
    ∃ p v, σ[i]? = some (some v) ∧ M p ∧ Cont K (fun a => C.G a ∨ M a) H p c v ∧
      ∀ H' c', Keep (fun a => a = p) H H' → Cont K (fun a => C.G a ∨ M a) H' p c' v → Rel K C M (putE env i c') σ H' ∧ Keep M H H' := by
  obtain ⟨s, e, hm, hs⟩ := mine_some h
  obtain ⟨p, d, v, h1, h2, h3, h4, h5⟩ := R.change e hm
  have hd : d = c := by
    rcases hs with rfl | rfl <;> rcases h2 with z | z <;> cases z <;> rfl
  subst hd
  refine ⟨p, v, h1, h3, h4, fun H' c' kp c => ?_⟩
  have eE : putE env i c' = env.set i (s.put c') := by unfold putE; rw [e]
  -- first change p alone, then let the rest grow
  have hu : ∃ o, H' p = some o := by
    cases q : H' p with
    | none => exact absurd q (kp.th p h4.there)
    | some o => exact ⟨o, rfl⟩
  obtain ⟨adr, ha, hsl⟩ := R.sl
  rw [eE]
  have kpM : Keep M H H' := ⟨fun a o e n => kp.kp a o e fun z => n (z ▸ h3), kp.th⟩
  refine ⟨?_, kpM⟩
  have mono : ∀ a o, H a = some o → ¬ (C.G a ∨ M a) → H' a = some o := fun a o e n => kp.kp a o e fun z => n (.inr (z ▸ h3))
  have q := hsl i s e
  have hadr : adr i = p ∨ True := .inr trivial
  have mut' : ∀ a, M a → Mut (H' a) := fun a m => by
    by_cases z : a = p
    · rw [z]; exact c.mut
    · exact mut_same (fun o e => kp.kp a o e z) (R.mm a m)
  -- the slot's own address is p
  have hip : adr i = p := by
    have v1 : v = .ref p := h4.val
    rcases hs with rfl | rfl
    · obtain ⟨v', q1, q2, q3, q4⟩ := q
      rw [h1] at q1; cases q1
      have := q4.val
      rw [v1] at this; cases this; rfl
    · obtain ⟨q1, q2, q4⟩ := q
      rw [h1] at q1
      have := q4.val
      have e3 : v = C.P i := by cases q1; rfl
      rw [← e3, v1] at this; cases this; rfl
  refine ⟨R.gm, fun a g => mut_same (fun o e => kp.kp a o e fun z => R.gm a g (z ▸ h3)) (R.gt a g), mut', fun a b => kp.th a (R.bh a b), by rw [List.length_set]; exact R.len, adr, fun j l s' t e1 e2 m1 m2 q => ?_, fun j s' e' => ?_⟩
  · have back : ∀ {j : Nat} {s' : Sl}, (env.set i (s.put c'))[j]? = some s' → s'.mine = true → ∃ s'', env[j]? = some s'' ∧ s''.mine = true := fun {j s'} e' m => by
      rcases get_set_cases e' with ⟨rfl, _, _⟩ | ⟨_, e'⟩
      · exact ⟨s, e, hm⟩
      · exact ⟨s', e', m⟩
    obtain ⟨s1, q1, n1⟩ := back e1 m1
    obtain ⟨s2, q2, n2⟩ := back e2 m2
    exact ha j l s1 s2 q1 q2 n1 n2 q
  · rcases get_set_cases e' with ⟨rfl, rfl, hl⟩ | ⟨ne, e'⟩
    · rcases hs with rfl | rfl
      · obtain ⟨v', q1, q2, q3, q4⟩ := q
        rw [h1] at q1; cases q1
        exact ⟨v, h1, q2, q3, by rw [hip]; exact c⟩
      · obtain ⟨q1, q2, q4⟩ := q
        have e3 : v = C.P i := by rw [h1] at q1; cases q1; rfl
        exact ⟨q1, q2, by rw [hip, ← e3]; exact c⟩
    · have q := hsl j s' e'
      have nadr : s'.mine = true → adr j ≠ p := fun m z => ne (ha j i s' s e' e m hm (z.trans hip.symm)).symm
      cases s' with
      | no => exact True.intro
      | frz d => obtain ⟨v, h1, h2⟩ := q; exact ⟨v, h1, Rep.mono mono (fun _ _ z => z) d v h2⟩
      | own d => obtain ⟨v, h1, h2, h3, h4⟩ := q; exact ⟨v, h1, h2, h3, h4.mono (fun o e => kp.kp _ o e (nadr rfl)) mono fun _ _ z => z⟩
      | par d => obtain ⟨h1, h2, h4⟩ := q; exact ⟨h1, h2, h4.mono (fun o e => kp.kp _ o e (nadr rfl)) mono fun _ _ z => z⟩
theorem sim_f1 {φ : F1} {i : Nat} {t : DA} {EW : XK → HW} {E : XK} (hW' : ∀ e H, W e H → EW E e H) (h : up K W (dF1 φ i t) σ H Q) : tCall (spF1 K EW φ) [] E (tCons (tVar i) (upA K W t)) σ H Q := by
  obtain ⟨C, M, env, k, x, R, ⟨⟨c0, h0⟩, h⟩, hk, hx⟩ := h
  obtain ⟨p, v, s1, m1, c1, _⟩ := R.mineA h0
  refine ⟨v, s1, C, M, env, _, x, R, h, fun ds e1 vs H1 M1 h1 R1 k1 g1 r1 => ?_, hx⟩
  show spF1 K EW φ ((v :: vs) ++ []) H1 Q E
  rw [List.append_nil]
  obtain ⟨c, h2, h1⟩ := h1
  obtain ⟨p2, v2, s2, m2, c2, w⟩ := R1.mineA h2
  rw [s1] at s2; cases s2
  refine ⟨_, p2, v, vs, c, ds, _, _, R1.avt, .inr m2, rfl, c2, r1, h1, fun d c' v' H' kd kp cc r => ?_, fun e c' H' xe kp cc => ?_⟩
  · obtain ⟨R3, k3⟩ := w H' c' kp cc
    exact hk d _ v' H' M1 kd R3 (k1.trans g1 k3) g1 r
  · obtain ⟨R3, k3⟩ := w H' c' kp cc
    exact hW' e H' (hx e _ H' M1 xe R3 (k1.trans g1 k3) g1)
end
/-! the body of a def -/
theorem rel_start0 {K : PySem.W.Frag} {Av : AS} {H : Hp} {ds : List D} {vs : List V} {N : List Str} (av : AvT Av H) (r : Reps K Av H ds vs) : Rel K ⟨Av, fun a => H a ≠ none, fun _ => .non⟩ (fun _ => False) (ds.map .frz ++ List.replicate (N.length - ds.length) .no) (L2.start N vs) H := by
  have hl := r.length
  refine ⟨fun _ _ z => z, av, fun _ z => z.elim, fun _ h => h, by unfold L2.start; simp [hl], fun _ => 0, fun i j s t e1 e2 m1 m2 _ => ?_, fun i s e => ?_⟩
  · exfalso
    rcases List.mem_append.mp (List.mem_of_getElem? e1) with h | h
    · obtain ⟨d, _, rfl⟩ := List.mem_map.mp h
      cases m1
    · rw [(List.mem_replicate.mp h).2] at m1; cases m1
  · by_cases hi : i < ds.length
    · rw [List.getElem?_append_left (by simpa using hi), List.getElem?_map, List.getElem?_eq_getElem hi] at e
      have e : Sl.frz ds[i] = s := Option.some.inj e
      subst e
      obtain ⟨v, hv, rv⟩ := r.get (List.getElem?_eq_getElem hi)
      refine ⟨v, ?_, Rep.mono (fun _ _ e _ => e) (fun _ _ z => z.elim id False.elim) _ _ rv⟩
      unfold L2.start
      rw [List.getElem?_append_left (by simpa [hl] using hi), List.getElem?_map, hv]
      rfl
    · rw [List.getElem?_append_right (by simpa using hi)] at e
      have := (List.mem_replicate.mp (List.mem_of_getElem? e)).2
      subst this
      exact True.intro
theorem rel_start1 {K : PySem.W.Frag} {Av : AS} {H : Hp} {p : Addr} {d0 : D} {v0 : V} {ds : List D} {vs : List V} {N : List Str} (av : AvT Av H) (hp : Av p) (c : Cont K Av H p d0 v0) (r : Reps K Av H ds vs) :
    Rel K ⟨fun a => Av a ∧ a ≠ p, fun a => H a ≠ none, fun _ => v0⟩ (fun a => a = p) (.par d0 :: (ds.map .frz ++ List.replicate (N.length - (ds.length + 1)) .no)) (L2.start N (v0 :: vs)) H := by
  have hl := r.length
  have hav : ∀ a, H a ≠ none → ((Av a ∧ a ≠ p) ∨ a = p) → Av a := fun a _ z => z.elim (·.1) fun z => z ▸ hp
  refine ⟨fun a g z => g.2 z, fun a g => av a g.1, fun a z => by rw [z]; exact av p hp, fun _ h => h, by unfold L2.start; simp [hl], fun _ => p, fun i j s t e1 e2 m1 m2 _ => ?_, fun i s e => ?_⟩
  · have z : ∀ {i : Nat} {s : Sl}, (Sl.par d0 :: (ds.map .frz ++ List.replicate (N.length - (ds.length + 1)) .no))[i]? = some s → s.mine = true → i = 0 := fun {i s} e m => by
      cases i with
      | zero => rfl
      | succ i =>
        exfalso
        rw [List.getElem?_cons_succ] at e
        rcases List.mem_append.mp (List.mem_of_getElem? e) with h | h
        · obtain ⟨d, _, rfl⟩ := List.mem_map.mp h
          cases m
        · rw [(List.mem_replicate.mp h).2] at m; cases m
    rw [z e1 m1, z e2 m2]
  · cases i with
    | zero =>
      rw [List.getElem?_cons_zero] at e
      have e : Sl.par d0 = s := Option.some.inj e
      subst e
      exact ⟨rfl, rfl, c.mono (fun _ e => e) (fun _ _ e _ => e) hav⟩
    | succ i =>
      rw [List.getElem?_cons_succ] at e
      by_cases hi : i < ds.length
      · rw [List.getElem?_append_left (by simpa using hi), List.getElem?_map, List.getElem?_eq_getElem hi] at e
        have e : Sl.frz ds[i] = s := Option.some.inj e
        subst e
        obtain ⟨v, hv, rv⟩ := r.get (List.getElem?_eq_getElem hi)
        refine ⟨v, ?_, Rep.mono (fun _ _ e _ => e) hav _ _ rv⟩
        show (L2.start N (v0 :: vs))[i + 1]? = _
        unfold L2.start
        rw [List.getElem?_append_left (by simpa [hl] using hi), List.getElem?_map, List.getElem?_cons_succ, hv]
        rfl
      · rw [List.getElem?_append_right (by simpa using hi)] at e
        have := (List.mem_replicate.mp (List.mem_of_getElem? e)).2
        subst this
        exact True.intro
/-- what a body is to bring -/
def endF0 (fr : Bool) (k : D → Prop) (x : Ex → Prop) : DK := { nx := fun _ => fr = false ∧ k .non, rt := fun d _ => k d, ex := fun e _ => x e }
def endF1 (k : D → D → Prop) (x : Ex → D → Prop) : DK := { nx := fun e => ∃ c, e[0]? = some (.par c) ∧ k .non c, rt := fun d e => ∃ c, e[0]? = some (.par c) ∧ k d c, ex := fun y e => ∃ c, e[0]? = some (.par c) ∧ x y c }
def envF0 (N : List Str) (ds : List D) : Env := ds.map .frz ++ List.replicate (N.length - ds.length) .no
def envF1 (N : List Str) (c : D) (ds : List D) : Env := .par c :: (ds.map .frz ++ List.replicate (N.length - (ds.length + 1)) .no)
theorem body_F0 {K : PySem.W.Frag} {EW : XK → HW} {fr : Bool} {φ : F0} {t : DS} {N : List Str} {vs : List V} {H : Hp} {Q : VK} {E : XK} (h : spF0 K EW fr φ vs H Q E) (ht : ∀ ds k x, φ ds k x → t (endF0 fr k x) (envF0 N ds)) :
    upS K (EW E) fr t { nx := fun _ H' => Q .non H', rt := Q } (L2.start N vs) H := by
  obtain ⟨Av, ds, k, x, av, r, hφ, hk, hx⟩ := h
  refine ⟨_, _, _, _, rel_start0 (N := N) av r, ht ds k x hφ, fun env' σ' H' M' kd R' kp g => ?_, fun d env' v σ' H' M' kd R' kp g z => ?_, fun e env' σ' H' M' xe R' kp g => hx e H' xe kp.toSame, fun _ _ _ _ z => z.elim, fun _ _ _ _ z => z.elim⟩
  · refine hk .non .non H' kd.2 kp.toSame ?_
    rw [kd.1]
    exact (rfl : V.non = V.non)
  · refine hk d v H' kd kp.toSame ?_
    cases fr with
    | true =>
      rw [if_pos rfl] at z
      obtain ⟨p, hB, hG, hM, c⟩ := z
      have hp : H p = none := Classical.byContradiction hB
      exact ⟨p, hp, c.mono (fun _ e => e) (fun _ _ e _ => e) fun a _ z => z.elim (fun z => .inl (.inl z)) .inr⟩
    | false =>
      rw [if_neg Bool.false_ne_true] at z
      exact Rep.mono (fun _ _ e _ => e) (fun a _ z => .inl z) _ _ z
theorem body_F1 {K : PySem.W.Frag} {EW : XK → HW} {φ : F1} {t : DS} {N : List Str} {vs : List V} {H : Hp} {Q : VK} {E : XK} (h : spF1 K EW φ vs H Q E) (ht : ∀ c ds k x, φ c ds k x → t (endF1 k x) (envF1 N c ds)) :
    upS K (EW E) false t { nx := fun _ H' => Q .non H', rt := Q } (L2.start N vs) H := by
  obtain ⟨Av, p, v0, vr, d0, ds, k, x, av, hp, rfl, c, r, hφ, hk, hx⟩ := h
  have fin : ∀ {c' : D} {env' : Env} {σ' : L2.St} {H' : Hp} {M' : AS}, env'[0]? = some (.par c') → Rel K ⟨fun a => Av a ∧ a ≠ p, fun a => H a ≠ none, fun _ => v0⟩ M' env' σ' H' → M' p ∧ Cont K Av H' p c' v0 := fun {c' env' σ' H' M'} e R' => by
    obtain ⟨adr, _, hs⟩ := R'.sl
    obtain ⟨_, q2, q3⟩ := hs 0 _ e
    have e1 := q3.val
    have e2 := c.val
    have e3 : adr 0 = p := by
      have : V.ref (adr 0) = V.ref p := e1.symm.trans e2
      cases this; rfl
    rw [e3] at q2 q3
    exact ⟨q2, q3.mono (fun _ e => e) (fun _ _ e _ => e) fun a _ z => by
      by_cases h : a = p
      · exact .inr (h ▸ q2)
      · exact .inl ⟨z, h⟩⟩
  refine ⟨_, _, _, _, rel_start1 (N := N) av hp c r, ht d0 ds k x hφ, fun env' σ' H' M' kd R' kp g => ?_, fun d env' v σ' H' M' kd R' kp g z => ?_, fun y env' σ' H' M' xe R' kp g => ?_, fun _ _ _ _ z => z.elim, fun _ _ _ _ z => z.elim⟩
  · obtain ⟨c', e, kd⟩ := kd
    obtain ⟨q2, q3⟩ := fin e R'
    exact hk .non c' .non H' kd kp q3 (rfl : V.non = V.non)
  · obtain ⟨c', e, kd⟩ := kd
    obtain ⟨q2, q3⟩ := fin e R'
    rw [if_neg Bool.false_ne_true] at z
    refine hk d c' v H' kd kp q3 (Rep.mono (fun _ _ e _ => e) (fun a _ z => ?_) _ _ z)
    by_cases h : a = p
    · exact .inr (h ▸ q2)
    · exact .inl ⟨z, h⟩
  · obtain ⟨c', e, xe⟩ := xe
    obtain ⟨q2, q3⟩ := fin e R'
    exact hx y c' H' xe kp q3
section
variable {P : Program} {w : World} {K : PySem.W.Frag} {mg : Str → Option Value} {base : Heap} {x qual : Str} {st : Stmt} {f : Addr} {fd : FuncData} {N ps : List Str} {k n : Nat}
/-- a def that raises nothing, all arguments read only -/
theorem fn_F0 {fr : Bool} {φ : F0} {t : DS} (F : Fun K x qual st f fd) (S : FnScope N ps (defScope st)) (hn : ps.length = n)
    (ht : ∀ ds k x, φ ds k x → ds.length = n ∧ t (endF0 fr k x) (envF0 N ds))
    (der : ∀ (cdv : Value) (A : Around) (outer : List PySem.Env) (s : Shared) (H : Hp) (E : XK), Room k (A.deeper (envOfC qual (defScope st) s.heap.objs.size f cdv)) → PSs (cxOf CX0 P w K mg base N qual (defScope st) f cdv A outer s H E).nox (defBody st) (upS K W0 fr t)) :
    FnOk P w K mg base CX0 (k + 1) f fd ps (spF0 K EW0 fr φ) := by
  refine F.ok S (fun vs H Q E h => ?_) fun cdv A outer s H vs Q E hr h => ⟨_, der cdv A outer s H E hr, body_F0 (EW := EW0) h fun ds k x q => (ht ds k x q).2⟩
  obtain ⟨Av, ds, k, x, av, r, hφ, _⟩ := h
  rw [r.length, (ht ds k x hφ).1, hn]
/-- .. the first argument changed -/
theorem fn_F1 {φ : F1} {t : DS} (F : Fun K x qual st f fd) (S : FnScope N ps (defScope st)) (hn : ps.length = n + 1)
    (ht : ∀ c ds k x, φ c ds k x → ds.length = n ∧ t (endF1 k x) (envF1 N c ds))
    (der : ∀ (cdv : Value) (A : Around) (outer : List PySem.Env) (s : Shared) (H : Hp) (E : XK), Room k (A.deeper (envOfC qual (defScope st) s.heap.objs.size f cdv)) → PSs (cxOf CX0 P w K mg base N qual (defScope st) f cdv A outer s H E).nox (defBody st) (upS K W0 false t)) :
    FnOk P w K mg base CX0 (k + 1) f fd ps (spF1 K EW0 φ) := by
  refine F.ok S (fun vs H Q E h => ?_) fun cdv A outer s H vs Q E hr h => ⟨_, der cdv A outer s H E hr, body_F1 (EW := EW0) h fun c ds k x q => (ht c ds k x q).2⟩
  obtain ⟨Av, p, v0, vr, d0, ds, k, x, av, hp, rfl, c, r, hφ, _⟩ := h
  rw [List.length_cons, r.length, (ht d0 ds k x hφ).1, hn]
end

/-! calls of defs that raise nothing -/
section
variable {X : Cx} {W : HW} {k : Nat} {f : Addr} {fd : FuncData} {ps : List Str} {x : Str} {p pos : Pos} {e : Expr} {es : List Expr} {t : DA}
theorem de_f0 {φ : F0} (F : FnOk X.prog X.w X.K X.mg X.base CX0 k f fd ps (spF0 X.K EW0 false φ)) (hr : Room k X.A) (hg : Gl X x) (hm : X.mg x = some (.ref f)) (hk : PySem.W.keepIn X.K (.ref f) = true) (hb : Binds X.K fd ps [])
    (ha : PA X (e :: es) (upA X.K W0 t)) (hdb : (x == ("__debug__" : Str)) = false := by decide) (he : starEach (e :: es) X.env = (false, eval e X.env) :: starEach es X.env := by rfl) (hpl : (backTo pos (starEach es X.env)).any (·.1) = false := by rfl) :
    PE X (.Call (.Name x p) (e :: es) [] pos) (up X.K W0 (dF0 φ t)) :=
  pe_conv (pe_call F hr hg hm hk hb .nil pass0 ha hdb he hpl) fun _ _ _ => sim_f0 (fun _ _ z => z) (fun _ _ z => z)
theorem de_f0F {φ : F0} (F : FnOk X.prog X.w X.K X.mg X.base CX0 k f fd ps (spF0 X.K EW0 true φ)) (hr : Room k X.A) (hg : Gl X x) (hm : X.mg x = some (.ref f)) (hk : PySem.W.keepIn X.K (.ref f) = true) (hb : Binds X.K fd ps [])
    (ha : PA X (e :: es) (upA X.K W0 t)) (hdb : (x == ("__debug__" : Str)) = false := by decide) (he : starEach (e :: es) X.env = (false, eval e X.env) :: starEach es X.env := by rfl) (hpl : (backTo pos (starEach es X.env)).any (·.1) = false := by rfl) :
    PE X (.Call (.Name x p) (e :: es) [] pos) (upF X.K W0 (dF0 φ t)) :=
  pe_conv (pe_call F hr hg hm hk hb .nil pass0 ha hdb he hpl) fun _ _ _ => sim_f0F (fun _ _ z => z)
theorem de_f1 {φ : F1} {i : Nat} {y : Str} {py : Pos} (F : FnOk X.prog X.w X.K X.mg X.base CX0 k f fd ps (spF1 X.K EW0 φ)) (hr : Room k X.A) (hg : Gl X x) (hm : X.mg x = some (.ref f)) (hk : PySem.W.keepIn X.K (.ref f) = true) (hb : Binds X.K fd ps [])
    (hy : PE X (.Name y py) (tVar i)) (ha : PA X es (upA X.K W0 t)) (hs : starEach (.Name y py :: es) X.env = (false, eval (.Name y py) X.env) :: starEach es X.env := by rfl) (hdb : (x == ("__debug__" : Str)) = false := by decide) (hpl : (backTo pos (starEach es X.env)).any (·.1) = false := by rfl) :
    PE X (.Call (.Name x p) (.Name y py :: es) [] pos) (up X.K W0 (dF1 φ i t)) :=
  pe_conv (pe_call F hr hg hm hk hb .nil pass0 (pa_cons hy ha hs) hdb hs hpl) fun _ _ _ => sim_f1 (fun _ _ z => z)
end
end FX

set_option Elab.async false
set_option linter.all false
set_option maxRecDepth 100000
set_option maxHeartbeats 1000000
/-! FxH: dicts walked; operators and built-ins over data -/
namespace FX
open PySem PySem.Spec PyProof.Rows L2

/-! ### a dict walked -/
def keysD : D → Option (List D)
  | .dI kvs => some (kvs.map fun p => .int p.1)
  | .dT kvs => some (kvs.map fun p => .tup (p.1.map .int))
  | _ => none
def diKeys (i : Nat) : DI := fun env k _ => ∃ d ks, env[i]? = some (.frz d) ∧ keysD d = some ks ∧ k ks env
section
variable {K : PySem.W.Frag} {Av : AS} {H : Hp} {a : Addr}
theorem RepI.keys : ∀ {kvs : List (Int × D)} {ws : List (Key × V)} {i : Nat} {k : Key} {v : V}, RepI K Av H kvs ws → ws[i]? = some (k, v) → ∃ n d, kvs[i]? = some (n, d) ∧ k = kI n
  | [], _, _, _, _, h, e => by cases h; simp at e
  | (n, d) :: kvs, _, 0, _, _, ⟨v', r, e', h1, h2⟩, e => by subst e'; simp at e; exact ⟨n, d, rfl, e.1.symm⟩
  | (n, d) :: kvs, _, i + 1, _, _, ⟨v', r, e', h1, h2⟩, e => by
    subst e'
    obtain ⟨n', d', q1, q2⟩ := RepI.keys (i := i) h2 (by simpa using e)
    exact ⟨n', d', by simpa using q1, q2⟩
theorem RepT.keys : ∀ {kvs : List (List Int × D)} {ws : List (List Key × V)} {i : Nat} {k : List Key} {v : V}, RepT K Av H kvs ws → ws[i]? = some (k, v) → ∃ n d, kvs[i]? = some (n, d) ∧ k = kT n
  | [], _, _, _, _, h, e => by cases h; simp at e
  | (n, d) :: kvs, _, 0, _, _, ⟨v', r, e', h1, h2⟩, e => by subst e'; simp at e; exact ⟨n, d, rfl, e.1.symm⟩
  | (n, d) :: kvs, _, i + 1, _, _, ⟨v', r, e', h1, h2⟩, e => by
    subst e'
    obtain ⟨n', d', q1, q2⟩ := RepT.keys (i := i) h2 (by simpa using e)
    exact ⟨n', d', by simpa using q1, q2⟩
theorem itok_keysI {kvs : List (Int × D)} {ws : List (Key × V)} {o : Obj} (na : ¬ Av a) (ha : H a = some (.frz o (.dK ws))) (r : RepI K Av H kvs ws) : ItOk K Av H (Itk a o ws) (kvs.map fun p => .int p.1) := by
  intro i H' Av' hk hav av
  have h' := hk a _ ha na
  have hl := r.length
  refine ⟨fun d hd => ?_, fun hi => ⟨h', by rw [hl]; simpa using hi⟩⟩
  rw [List.getElem?_map] at hd
  have hi : i < kvs.length := by
    cases e : kvs[i]? with
    | none => rw [e] at hd; cases hd
    | some p => exact (List.getElem?_eq_some_iff.mp e).1
  refine ⟨⟨h', by omega⟩, fun x H2 hy => ?_⟩
  obtain ⟨rfl, k, v, hkv, rfl⟩ := hy
  obtain ⟨n, d', q1, rfl⟩ := r.keys hkv
  rw [q1] at hd
  cases hd
  exact ⟨Same.refl _, rfl⟩
theorem itok_keysT {kvs : List (List Int × D)} {ws : List (List Key × V)} {o : Obj} (na : ¬ Av a) (ha : H a = some (.frz o (.dT ws))) (r : RepT K Av H kvs ws) : ItOk K Av H (Itkt a o ws) (kvs.map fun p => .tup (p.1.map .int)) := by
  intro i H' Av' hk hav av
  have h' := hk a _ ha na
  have hl := r.length
  refine ⟨fun d hd => ?_, fun hi => ⟨h', by rw [hl]; simpa using hi⟩⟩
  rw [List.getElem?_map] at hd
  have hi : i < kvs.length := by
    cases e : kvs[i]? with
    | none => rw [e] at hd; cases hd
    | some p => exact (List.getElem?_eq_some_iff.mp e).1
  refine ⟨⟨h', by omega⟩, fun x H2 hy => ?_⟩
  obtain ⟨rfl, k, v, q, hkv, rfl, hq⟩ := hy
  obtain ⟨n, d', q1, rfl⟩ := r.keys hkv
  rw [q1] at hd
  cases hd
  rw [kT_tup] at hq
  exact ⟨Same.refl _, q, _, rfl, av.tup hq, hq, Reps.ints.mpr rfl⟩
theorem Reps.lock {u : HO} (hT : (∃ ws, u = .dT ws) ∨ ∃ ws, u = .dK ws) {H' : Hp} (hk : ∀ b, b ≠ a → H' b = H b) (h1 : Rd H a u) (h2 : Rd H' a u) : ∀ (ds : List D) (vs : List V), Reps K Av H ds vs → Reps K Av H' ds vs
  | [], _, h => h
  | d :: ds, _, ⟨v, r, e, q1, q2⟩ => ⟨v, r, e, lock_rep hT hk h1 h2 d v q1, Reps.lock hT hk h1 h2 ds r q2⟩
theorem RepI.lock {u : HO} (hT : (∃ ws, u = .dT ws) ∨ ∃ ws, u = .dK ws) {H' : Hp} (hk : ∀ b, b ≠ a → H' b = H b) (h1 : Rd H a u) (h2 : Rd H' a u) : ∀ (ds : List (Int × D)) (vs : List (Key × V)), RepI K Av H ds vs → RepI K Av H' ds vs
  | [], _, h => h
  | (_, d) :: ds, _, ⟨v, r, e, q1, q2⟩ => ⟨v, r, e, lock_rep hT hk h1 h2 d v q1, RepI.lock hT hk h1 h2 ds r q2⟩
theorem RepT.lock {u : HO} (hT : (∃ ws, u = .dT ws) ∨ ∃ ws, u = .dK ws) {H' : Hp} (hk : ∀ b, b ≠ a → H' b = H b) (h1 : Rd H a u) (h2 : Rd H' a u) : ∀ (ds : List (List Int × D)) (vs : List (List Key × V)), RepT K Av H ds vs → RepT K Av H' ds vs
  | [], _, h => h
  | (_, d) :: ds, _, ⟨v, r, e, q1, q2⟩ => ⟨v, r, e, lock_rep hT hk h1 h2 d v q1, RepT.lock hT hk h1 h2 ds r q2⟩
theorem Cont.lock {u : HO} {p : Addr} {d : D} {v : V} (hT : (∃ ws, u = .dT ws) ∨ ∃ ws, u = .dK ws) {H' : Hp} (hk : ∀ b, b ≠ a → H' b = H b) (h1 : Rd H a u) (h2 : Rd H' a u) (np : p ≠ a) (c : Cont K Av H p d v) : Cont K Av H' p d v := by
  cases d with
  | lst ds => obtain ⟨e, vs, h, r⟩ := c; exact ⟨e, vs, by rw [hk p np]; exact h, Reps.lock hT hk h1 h2 _ _ r⟩
  | dI ds => obtain ⟨e, vs, h, r⟩ := c; exact ⟨e, vs, by rw [hk p np]; exact h, RepI.lock hT hk h1 h2 _ _ r⟩
  | dT ds => obtain ⟨e, vs, h, r⟩ := c; exact ⟨e, vs, by rw [hk p np]; exact h, RepT.lock hT hk h1 h2 _ _ r⟩
  | non | bl _ | int _ | str _ | tup _ | scr _ | obj _ _ => exact c
theorem Rd.ne {H : Hp} {a : Addr} {u : HO} (h : Rd H a u) : H a ≠ none := by
  rcases h with h | ⟨o, h⟩ <;> (rw [h]; simp)
theorem Rel.lock {C : Ctx} {M : AS} {env : Env} {σ : L2.St} {u : HO} (R : Rel K C M env σ H) (hT : (∃ ws, u = .dT ws) ∨ ∃ ws, u = .dK ws) {H' : Hp} (hk : ∀ b, b ≠ a → H' b = H b) (h1 : Rd H a u) (h2 : Rd H' a u) (ng : ¬ (C.G a ∨ M a)) : Rel K C M env σ H' := by
  obtain ⟨adr, ha, hs⟩ := R.sl
  refine ⟨R.gm, fun b g => by rw [hk b fun z => ng (.inl (z ▸ g))]; exact R.gt b g, fun b m => by rw [hk b fun z => ng (.inr (z ▸ m))]; exact R.mm b m, fun b hb => ?_, R.len, adr, ha, fun j s e => ?_⟩
  · by_cases z : b = a
    · rw [z]; exact FX.Rd.ne h2
    · rw [hk b z]; exact R.bh b hb
  · have q := hs j s e
    cases s with
    | no => exact True.intro
    | frz d => obtain ⟨v, q1, q2⟩ := q; exact ⟨v, q1, lock_rep hT hk h1 h2 d v q2⟩
    | own d => obtain ⟨v, q1, q2, q3, q4⟩ := q; exact ⟨v, q1, q2, q3, q4.lock hT hk h1 h2 fun z => ng (.inr (z ▸ q2))⟩
    | par d => obtain ⟨q1, q2, q4⟩ := q; exact ⟨q1, q2, q4.lock hT hk h1 h2 fun z => ng (.inr (z ▸ q2))⟩
end
/-- the dict in slot i is locked -/
def Locked (i : Nat) (σ : L2.St) (H : Hp) : Prop := ∃ a o u, σ[i]? = some (some (.ref a)) ∧ H a = some (.frz o u) ∧ ((∃ ws, u = .dT ws) ∨ ∃ ws, u = .dK ws)
section
variable {X : Cx} {tg e : Expr} {W : HW} {pos : Pos}
theorem keys_sim {K : PySem.W.Frag} {W : HW} {i : Nat} {σ : L2.St} {H : Hp} {Q : It → Hp → Prop} (hl : Locked i σ H) (h : upI K W (diKeys i) σ H Q) : iKeys (tVar i) σ H Q := by
  obtain ⟨C, M, env, k, x, R, ⟨d, ks, he, hd, kd⟩, hk, hx⟩ := h
  obtain ⟨adr, _, hs⟩ := R.sl
  obtain ⟨v, h1, h2⟩ := hs i _ he
  obtain ⟨a, o, u, l1, l2, l3⟩ := hl
  rw [h1] at l1
  cases l1
  refine ⟨.ref a, h1, a, o, rfl, ?_⟩
  cases d with
  | dI kvs =>
    obtain ⟨b, ws, e, nb, hb, r⟩ := h2
    cases e
    cases hd
    rcases hb with hb | ⟨o2, hb⟩
    · rw [l2] at hb; cases hb
    · have hb2 := hb
      rw [l2] at hb2; cases hb2
      exact .inl ⟨ws, hb, hk _ env _ H M kd R (.refl _ _) (.refl _ _) (itok_keysI nb hb r)⟩
  | dT kvs =>
    obtain ⟨b, ws, e, nb, hb, r⟩ := h2
    cases e
    cases hd
    rcases hb with hb | ⟨o2, hb⟩
    · rw [l2] at hb; cases hb
    · have hb2 := hb
      rw [l2] at hb2; cases hb2
      exact .inr ⟨ws, hb, hk _ env _ H M kd R (.refl _ _) (.refl _ _) (itok_keysT nb hb r)⟩
  | non | bl _ | int _ | str _ | tup _ | lst _ | scr _ | obj _ _ => cases hd
theorem pe_orC {e : Expr} {t : TE} (h : PE X e t) : PE X e (fun σ H Q => t σ H Q ∨ tLockE t σ H Q) := ⟨fun pins s σ H Q I q => q.elim (h.run pins s σ H Q I) ((pe_lock h).run pins s σ H Q I)⟩
theorem ps_orC {st : Stmt} {t : TS} (h : PS X st t) : PS X st (fun D σ H => t D σ H ∨ tLock t D σ H) := ⟨fun pins s σ H D I q => q.elim (h.run pins s σ H D I) ((ps_lock h).run pins s σ H D I)⟩
/-- what is needed of the dict in slot i: it is one -/
def isDictAt (i : Nat) (env : Env) : Prop := ∃ d, env[i]? = some (.frz d) ∧ isDict d = true
theorem slot_dict {K : PySem.W.Frag} {C : Ctx} {M : AS} {env : Env} {σ : L2.St} {H : Hp} {i : Nat} (R : Rel K C M env σ H) (h : isDictAt i env) : ∃ a u, σ[i]? = some (some (.ref a)) ∧ Rd H a u ∧ ((∃ ws, u = .dT ws) ∨ ∃ ws, u = .dK ws) ∧ ¬ (C.G a ∨ M a) := by
  obtain ⟨d, he, hd⟩ := h
  obtain ⟨adr, _, hs⟩ := R.sl
  obtain ⟨v, h1, h2⟩ := hs i _ he
  cases d with
  | dI kvs => obtain ⟨b, ws, e, nb, hb, r⟩ := h2; subst e; exact ⟨b, _, h1, hb, .inr ⟨ws, rfl⟩, nb⟩
  | dT kvs => obtain ⟨b, ws, e, nb, hb, r⟩ := h2; subst e; exact ⟨b, _, h1, hb, .inl ⟨ws, rfl⟩, nb⟩
  | non | bl _ | int _ | str _ | tup _ | lst _ | scr _ | obj _ _ => cases hd
theorem mut_dict {u : HO} (h : (∃ ws, u = .dT ws) ∨ ∃ ws, u = .dK ws) : Mut (some u) := by
  rcases h with ⟨ws, rfl⟩ | ⟨ws, rfl⟩ <;> trivial
theorem lock_same {H : Hp} {a : Addr} {u : HO} {od : Obj} : ∀ b, b ≠ a → upd H a (.frz od u) b = H b := fun b n => upd_ne n
theorem Keep.unlock {M : AS} {H H' : Hp} {a : Addr} {u : HO} {od : Obj} (ha : H a = some u) (k : Keep M (upd H a (.frz od u)) H') : Keep M H (upd H' a u) := by
  refine ⟨fun b o e n => ?_, fun b n => ?_⟩
  · by_cases z : b = a
    · subst z; rw [upd_same, ← e, ha]
    · rw [upd_ne z]; exact k.kp b o (by rw [upd_ne z]; exact e) n
  · by_cases z : b = a
    · subst z; rw [upd_same]; simp
    · rw [upd_ne z]; exact k.th b (by rw [upd_ne z]; exact n)
theorem Grow.unlock {M M' : AS} {H : Hp} {a : Addr} {u : HO} {o : HO} (ha : H a = some o) (g : Grow M (upd H a u) M') : Grow M H M' := fun b z => by
  rcases g b z with q | q
  · exact .inl q
  · by_cases y : b = a
    · subst y; rw [upd_same] at q; cases q
    · rw [upd_ne y] at q; exact .inr q
theorem sim_lockE {K : PySem.W.Frag} {i : Nat} {t : DE} {T : TE} (c : ∀ σ H Q, Locked i σ H → upF K W t σ H Q → T σ H Q) {σ : L2.St} {H : Hp} {Q : VK} (hW : ∀ e H H', W e H → W e H') (h : upF K W (fun env k x => isDictAt i env ∧ t env k x) σ H Q) : T σ H Q ∨ tLockE T σ H Q := by
  obtain ⟨C, M, env, k, x, R, ⟨hd, h⟩, hk, hx⟩ := h
  obtain ⟨a, u, s1, rd, hT, ng⟩ := slot_dict R hd
  rcases rd with ha | ⟨o, ha⟩
  · refine .inr ⟨a, u, ha, mut_dict hT, fun od => ?_⟩
    have hl : (upd H a (.frz od u)) a = some (.frz od u) := upd_same
    have R2 : Rel K C M env σ (upd H a (.frz od u)) := R.lock hT lock_same (.inl ha) (.inr ⟨od, hl⟩) ng
    refine c σ _ _ ⟨a, od, u, s1, hl, hT⟩ ⟨C, M, env, k, x, R2, h, fun d env' p v H' M' kd R' kp g hp cc => ?_, fun e env' H' M' xe R' kp g => ?_⟩
    · have ha' := kp.kp a _ hl fun z => ng (.inr z)
      have hpa : p ≠ a := fun z => by rw [z, hl] at hp; cases hp
      have ng' : ¬ ((C.add p).G a ∨ M' a) := fun z => by
        rcases z with (z | z) | z
        · exact ng (.inl z)
        · exact hpa z.symm
        · rcases g a z with q | q
          · exact ng (.inr q)
          · rw [hl] at q; cases q
      refine ⟨ha', hk d env' p v (upd H' a u) M' kd (R'.lock hT (fun b n => upd_ne n) (.inr ⟨od, ha'⟩) (.inl upd_same) ng') (kp.unlock ha) (g.unlock ha) (by rw [upd_ne hpa] at hp; exact hp) ?_⟩
      exact cc.lock hT (fun b n => upd_ne n) (.inr ⟨od, ha'⟩) (.inl upd_same) hpa
    · have ha' := kp.kp a _ hl fun z => ng (.inr z)
      have ng' : ¬ (C.G a ∨ M' a) := fun z => by
        rcases z with z | z
        · exact ng (.inl z)
        · rcases g a z with q | q
          · exact ng (.inr q)
          · rw [hl] at q; cases q
      exact hW e _ _ (hx e env' (upd H' a u) M' xe (R'.lock hT (fun b n => upd_ne n) (.inr ⟨od, ha'⟩) (.inl upd_same) ng') (kp.unlock ha) (g.unlock ha))
  · exact .inl (c σ H Q ⟨a, o, u, s1, ha, hT⟩ ⟨C, M, env, k, x, R, h, hk, hx⟩)
theorem sim_lockS {K : PySem.W.Frag} {fr : Bool} {i : Nat} {t : DS} {T : TS} (c : ∀ D σ H, Locked i σ H → upS K W fr t D σ H → T D σ H) {σ : L2.St} {H : Hp} {D : Ends} (hW : ∀ e H H', W e H → W e H') (h : upS K W fr (fun k env => isDictAt i env ∧ t k env) D σ H) : T D σ H ∨ tLock T D σ H := by
  obtain ⟨C, M, env, k, R, ⟨hd, h⟩, hn, hr, hx, hb, hc⟩ := h
  obtain ⟨a, u, s1, rd, hT, ng⟩ := slot_dict R hd
  rcases rd with ha | ⟨o, ha⟩
  · refine .inr ⟨a, u, ha, mut_dict hT, fun od => ?_⟩
    have hl : (upd H a (.frz od u)) a = some (.frz od u) := upd_same
    have R2 : Rel K C M env σ (upd H a (.frz od u)) := R.lock hT lock_same (.inl ha) (.inr ⟨od, hl⟩) ng
    have post : ∀ {env' : Env} {σ' : L2.St} {H' : Hp} {M' : AS}, Rel K C M' env' σ' H' → Keep M (upd H a (.frz od u)) H' → Grow M (upd H a (.frz od u)) M' → H' a = some (.frz od u) ∧ ¬ (C.G a ∨ M' a) ∧ Rel K C M' env' σ' (upd H' a u) ∧ Keep M H (upd H' a u) ∧ Grow M H M' := fun {env' σ' H' M'} R' kp g => by
      have ha' := kp.kp a _ hl fun z => ng (.inr z)
      have ng' : ¬ (C.G a ∨ M' a) := fun z => by
        rcases z with z | z
        · exact ng (.inl z)
        · rcases g a z with q | q
          · exact ng (.inr q)
          · rw [hl] at q; cases q
      exact ⟨ha', ng', R'.lock hT (fun b n => upd_ne n) (.inr ⟨od, ha'⟩) (.inl upd_same) ng', kp.unlock ha, g.unlock ha⟩
    refine c _ σ _ ⟨a, od, u, s1, hl, hT⟩ ⟨C, M, env, k, R2, h, fun env' σ' H' M' q R' kp g => ?_, fun d env' v σ' H' M' q R' kp g rv => ?_, fun e env' σ' H' M' q R' kp g => ?_, fun env' σ' H' M' q R' kp g => ?_, fun env' σ' H' M' q R' kp g => ?_⟩
    · obtain ⟨p1, _, p2, p3, p4⟩ := post R' kp g
      exact ⟨p1, hn env' σ' _ M' q p2 p3 p4⟩
    · obtain ⟨p1, ng', p2, p3, p4⟩ := post R' kp g
      refine ⟨p1, hr d env' v σ' _ M' q p2 p3 p4 ?_⟩
      cases fr with
      | true =>
        rw [if_pos rfl] at rv ⊢
        obtain ⟨p, b1, b2, b3, cc⟩ := rv
        have hpa : p ≠ a := fun z => by
          have := cc.mut
          rw [z, p1] at this
          exact this
        exact ⟨p, b1, b2, b3, cc.lock hT (fun b n => upd_ne n) (.inr ⟨od, p1⟩) (.inl upd_same) hpa⟩
      | false =>
        rw [if_neg Bool.false_ne_true] at rv ⊢
        exact lock_rep hT (fun b n => upd_ne n) (.inr ⟨od, p1⟩) (.inl upd_same) _ _ rv
    · obtain ⟨p1, _, p2, p3, p4⟩ := post R' kp g
      exact hW e _ _ (hx e env' σ' _ M' q p2 p3 p4)
    · obtain ⟨p1, _, p2, p3, p4⟩ := post R' kp g
      exact ⟨p1, hb env' σ' _ M' q p2 p3 p4⟩
    · obtain ⟨p1, _, p2, p3, p4⟩ := post R' kp g
      exact ⟨p1, hc env' σ' _ M' q p2 p3 p4⟩
  · exact .inl (c D σ H ⟨a, o, u, s1, ha, hT⟩ ⟨C, M, env, k, R, h, hn, hr, hx, hb, hc⟩)
/-- [.. for x in d], d the dict in slot i -/
def dLcK (i : Nat) (g : DG) (tt : DT) (te : DE) (vs : List Nat) : DE := fun env k x => isDictAt i env ∧ dLc (diKeys i) g tt te vs env k x
def sForK (i : Nat) (g : DG) (tb : DS) : DS := fun k env => isDictAt i env ∧ sFor (diKeys i) g tb k env
theorem upF_lcK {K : PySem.W.Frag} {i : Nat} {g : DG} {tt : DT} {te : DE} {vs : List Nat} {σ : L2.St} {H : Hp} {Q : VK} (hl : Locked i σ H) (h : upF K W (dLc (diKeys i) g tt te vs) σ H Q) : tLc (iKeys (tVar i)) (upG K vs g) (upT K W0 tt) (up K W0 te) vs σ H Q := by
  have h := sim_lc h
  exact keys_sim hl h
theorem de_lcK {elt : Expr} {ifs : List Expr} {scope : Scope} {own : List (Str × Nat)} {i : Nat} {g : DG} {tt : DT} {te : DE} {y : Str} {py : Pos} (vs : List Nat) (hv : own.map (·.2) = vs) (hc : X.calm = true) (hN : X.N.Nodup) (hy : PE X (.Name y py) (tVar i)) (ok : BlkOk X.N X.env.scope scope own)
    (hg : ∀ (s : Shared) (H : Hp) (C : Addr) (cl : List (Str × Addr)) (fp : List Addr), PG (X.blk s H scope (compEnvC scope cl C X.env) fp) tg (upG X.K vs g)) (ht : ∀ (s : Shared) (H : Hp) (C : Addr) (cl : List (Str × Addr)) (fp : List Addr), PTs (X.blk s H scope (compEnvC scope cl C X.env) fp) ifs (upT X.K W0 tt))
    (he : ∀ (s : Shared) (H : Hp) (C : Addr) (cl : List (Str × Addr)) (fp : List Addr), PE (X.blk s H scope (compEnvC scope cl C X.env) fp) elt (up X.K W0 te)) (hs : ∀ x, foldedSetIterable (.Name y py) X.env x = pure x := by intro _; rfl) :
    PE X (.ListComp elt [⟨tg, .Name y py, ifs, 0⟩] scope pos) (upF X.K W0 (dLcK i g tt te vs)) := by
  subst hv
  exact pe_conv (pe_orC (pe_lc hc hN (pi_keys hy) ok hg ht he hs)) fun σ H Q h => sim_lockE (i := i) (t := dLc (diKeys i) g tt te _) (fun σ H Q hl h => upF_lcK hl h) (fun _ _ _ z => z) h
theorem ds_forK {fr : Bool} {body : List Stmt} {i : Nat} {g : DG} {vs : List Nat} {tb : DS} {y : Str} {py : Pos} (hp : PassesOwn (model X.prog X.w) X.A X.env X.xe) (hc : X.calm = true) (hy : PE X (.Name y py) (tVar i)) (hg : PG X tg (upG X.K vs g)) (hb : PSs X body (upS X.K W0 fr tb))
    (hs : ∀ x, foldedSetIterable (.Name y py) X.env x = pure x := by intro _; rfl) : PS X (.For tg (.Name y py) body [] pos) (upS X.K W0 fr (sForK i g tb)) :=
  ps_conv (ps_orC (ps_for hp hc (pi_keys hy) hg hb hs)) fun D σ H h => sim_lockS (i := i) (t := sFor (diKeys i) g tb) (fun D σ H hl h => by
    have h := sim_for (vs := vs) h
    exact keys_sim hl h) (fun _ _ _ z => z) h
end
end FX

set_option Elab.async false
set_option linter.all false
set_option maxRecDepth 100000
set_option maxHeartbeats 1000000
/-! FxI: operators and built-ins over data -/
namespace FX
open PySem PySem.Spec PyProof.Rows L2

/-! ### ints -/
def addD : D → D → Option D
  | .int i, .int j => some (.int (i + j))
  | _, _ => none
def subD : D → D → Option D
  | .int i, .int j => some (.int (i - j))
  | _, _ => none
def mulD : D → D → Option D
  | .int i, .int j => if (-(2 ^ 64) < i ∧ i < 2 ^ 64) ∨ (-(2 ^ 64) < j ∧ j < 2 ^ 64) then some (.int (i * j)) else none
  | _, _ => none
def divD : D → D → Option D
  | .int i, .int j => if 0 < j ∧ j < 1073741824 then some (.int (i / j)) else none
  | _, _ => none
def modD : D → D → Option D
  | .int i, .int j => if 0 < j then some (.int (i % j)) else none
  | _, _ => none
def powD : D → D → Option D
  | .int i, .int j => if 0 ≤ j ∧ j ≤ 1000000 ∧ i.natAbs < 2 ^ 64 then some (.int (i ^ j.toNat)) else none
  | _, _ => none
def shlD : D → D → Option D
  | .int i, .int j => if 0 ≤ j ∧ j ≤ 1000000 ∧ i.natAbs < 2 ^ 64 then some (.int (i * 2 ^ j.toNat)) else none
  | _, _ => none
def shrD : D → D → Option D
  | .int i, .int j => if 0 ≤ j then some (.int (i / 2 ^ j.toNat)) else none
  | _, _ => none
def andD : D → D → Option D
  | .int i, .int j => some (.int (Builtin.bitAnd i j))
  | _, _ => none
def orD : D → D → Option D
  | .int i, .int j => some (.int (Builtin.bitOr i j))
  | _, _ => none
def leD : D → D → Option D
  | .int i, .int j => some (.bl (decide (i ≤ j)))
  | _, _ => none
def gtD : D → D → Option D
  | .int i, .int j => some (.bl (decide (j < i)))
  | _, _ => none
def geD : D → D → Option D
  | .int i, .int j => some (.bl (decide (j ≤ i)))
  | _, _ => none
def ltD : D → D → Option D
  | .int i, .int j => some (.bl (decide (i < j)))
  | .tup a, .tup b => (intsOf a).bind fun ns => (intsOf b).map fun ms => .bl (HT.lexLt ns ms)
  | _, _ => none
def negD : D → Option D
  | .int i => some (.int (-i))
  | _ => none
section
variable {K : PySem.W.Frag}
theorem bin_rI0 {f : D → D → Option D} {g : Int → Int → V} {h : Int → Int → D} (hf : ∀ a b d, f a b = some d → ∃ i j, a = .int i ∧ b = .int j ∧ d = h i j) (hr : ∀ Av H i j, Rep K Av H (h i j) (g i j)) : Bin K (rI0 g) f := ⟨fun {Av H a b d x y Q} av ra rb e q => by
  obtain ⟨i, j, rfl, rfl, rfl⟩ := hf a b d e
  exact ⟨i, j, ra, rb, q _ H (Same.refl H) (hr Av H i j)⟩⟩
theorem bin_rI {f : D → D → Option D} {C : Int → Int → Prop} {g : Int → Int → V} {h : Int → Int → D} (hf : ∀ a b d, f a b = some d → ∃ i j, a = .int i ∧ b = .int j ∧ C i j ∧ d = h i j) (hr : ∀ Av H i j, Rep K Av H (h i j) (g i j)) : Bin K (rI C g) f := ⟨fun {Av H a b d x y Q} av ra rb e q => by
  obtain ⟨i, j, rfl, rfl, c, rfl⟩ := hf a b d e
  exact ⟨i, j, ra, rb, c, q _ H (Same.refl H) (hr Av H i j)⟩⟩
theorem b_add : Bin K (rI0 fun i j => .int (i + j)) addD := bin_rI0 (h := fun i j => .int (i + j)) (fun a b d e => by cases a <;> cases b <;> cases e; exact ⟨_, _, rfl, rfl, rfl⟩) fun _ _ _ _ => rfl
theorem b_sub : Bin K (rI0 fun i j => .int (i - j)) subD := bin_rI0 (h := fun i j => .int (i - j)) (fun a b d e => by cases a <;> cases b <;> cases e; exact ⟨_, _, rfl, rfl, rfl⟩) fun _ _ _ _ => rfl
theorem b_and : Bin K (rI0 fun i j => .int (Builtin.bitAnd i j)) andD := bin_rI0 (h := fun i j => .int (Builtin.bitAnd i j)) (fun a b d e => by cases a <;> cases b <;> cases e; exact ⟨_, _, rfl, rfl, rfl⟩) fun _ _ _ _ => rfl
theorem b_or : Bin K (rI0 fun i j => .int (Builtin.bitOr i j)) orD := bin_rI0 (h := fun i j => .int (Builtin.bitOr i j)) (fun a b d e => by cases a <;> cases b <;> cases e; exact ⟨_, _, rfl, rfl, rfl⟩) fun _ _ _ _ => rfl
theorem b_le : Bin K (rI0 fun i j => .bl (decide (i ≤ j))) leD := bin_rI0 (h := fun i j => .bl (decide (i ≤ j))) (fun a b d e => by cases a <;> cases b <;> cases e; exact ⟨_, _, rfl, rfl, rfl⟩) fun _ _ _ _ => rfl
theorem b_gt : Bin K (rI0 fun i j => .bl (decide (j < i))) gtD := bin_rI0 (h := fun i j => .bl (decide (j < i))) (fun a b d e => by cases a <;> cases b <;> cases e; exact ⟨_, _, rfl, rfl, rfl⟩) fun _ _ _ _ => rfl
theorem b_ge : Bin K (rI0 fun i j => .bl (decide (j ≤ i))) geD := bin_rI0 (h := fun i j => .bl (decide (j ≤ i))) (fun a b d e => by cases a <;> cases b <;> cases e; exact ⟨_, _, rfl, rfl, rfl⟩) fun _ _ _ _ => rfl
theorem ite_some {c : Prop} [Decidable c] {α : Type} {a d : α} (h : (if c then some a else none) = some d) : c ∧ d = a := by
  split at h
  · rename_i hc; exact ⟨hc, (Option.some.inj h).symm⟩
  · cases h
theorem b_mul : Bin K (rI CMul fun i j => .int (i * j)) mulD := bin_rI (h := fun i j => .int (i * j)) (fun a b d e => by
  cases a <;> cases b <;> first | (cases e; done) | skip
  obtain ⟨c, e⟩ := ite_some e
  exact ⟨_, _, rfl, rfl, c, e⟩) fun _ _ _ _ => rfl
theorem b_div : Bin K (rI CDiv fun i j => .int (i / j)) divD := bin_rI (h := fun i j => .int (i / j)) (fun a b d e => by
  cases a <;> cases b <;> first | (cases e; done) | skip
  obtain ⟨c, e⟩ := ite_some e
  exact ⟨_, _, rfl, rfl, c, e⟩) fun _ _ _ _ => rfl
theorem b_mod : Bin K (rI (fun _ j => 0 < j) fun i j => .int (i % j)) modD := bin_rI (h := fun i j => .int (i % j)) (fun a b d e => by
  cases a <;> cases b <;> first | (cases e; done) | skip
  obtain ⟨c, e⟩ := ite_some e
  exact ⟨_, _, rfl, rfl, c, e⟩) fun _ _ _ _ => rfl
theorem b_pow : Bin K (rI CPow fun i j => .int (i ^ j.toNat)) powD := bin_rI (h := fun i j => .int (i ^ j.toNat)) (fun a b d e => by
  cases a <;> cases b <;> first | (cases e; done) | skip
  obtain ⟨c, e⟩ := ite_some e
  exact ⟨_, _, rfl, rfl, c, e⟩) fun _ _ _ _ => rfl
theorem b_shl : Bin K (rI CPow fun i j => .int (i * 2 ^ j.toNat)) shlD := bin_rI (h := fun i j => .int (i * 2 ^ j.toNat)) (fun a b d e => by
  cases a <;> cases b <;> first | (cases e; done) | skip
  obtain ⟨c, e⟩ := ite_some e
  exact ⟨_, _, rfl, rfl, c, e⟩) fun _ _ _ _ => rfl
theorem b_shr : Bin K (rI (fun _ j => 0 ≤ j) fun i j => .int (i / 2 ^ j.toNat)) shrD := bin_rI (h := fun i j => .int (i / 2 ^ j.toNat)) (fun a b d e => by
  cases a <;> cases b <;> first | (cases e; done) | skip
  obtain ⟨c, e⟩ := ite_some e
  exact ⟨_, _, rfl, rfl, c, e⟩) fun _ _ _ _ => rfl
theorem b_neg : Una K (rU fun i => .int (-i)) negD := ⟨fun {Av H a d x Q} av ra e q => by
  cases a <;> cases e
  exact ⟨_, ra, q _ H (Same.refl H) rfl⟩⟩
def rLtA (K : PySem.W.Frag) : R2 := fun x y H Q => rI0 (fun i j => .bl (decide (i < j))) x y H Q ∨ rLtT K x y H Q
theorem op_ltA {X : Cx} (hu : X.A.units < cLine) : OpR X (compareOp .Lt) (rLtA X.K) := op_lt.or (op_ltT hu)
theorem b_lt : Bin K (rLtA K) ltD := ⟨fun {Av H a b d x y Q} av ra rb e q => by
  cases a with
  | int i =>
    cases b <;> cases e
    exact .inl ⟨_, _, ra, rb, q _ H (Same.refl H) rfl⟩
  | tup as =>
    cases b with
    | tup bs =>
      have e : ((intsOf as).bind fun ns => (intsOf bs).map fun ms => D.bl (HT.lexLt ns ms)) = some d := e
      cases e1 : intsOf as with
      | none => rw [e1] at e; cases e
      | some ns =>
        cases e2 : intsOf bs with
        | none => rw [e1, e2] at e; cases e
        | some ms =>
          rw [e1, e2] at e
          cases e
          have e1 := ints_mapM e1
          have e2 := ints_mapM e2
          subst e1 e2
          obtain ⟨p, vs, rfl, np, hp, r1⟩ := ra
          obtain ⟨p2, vs2, rfl, np2, hp2, r2⟩ := rb
          have := Reps.ints.mp r1
          subst this
          have := Reps.ints.mp r2
          subst this
          exact .inr ⟨p, p2, ns, ms, rfl, rfl, SqT.of hp, SqT.of hp2, q _ H (Same.refl H) rfl⟩
    | non | bl _ | int _ | str _ | lst _ | dI _ | dT _ | scr _ | obj _ _ => cases e
  | non | bl _ | str _ | lst _ | dI _ | dT _ | scr _ | obj _ _ => cases b <;> cases e⟩
end

/-! ### == and in -/
mutual
def py : D → PyData
  | .non => .none
  | .bl b => .bool b
  | .int i => .int i
  | .str x => .str x
  | .tup ds => .tuple (pys ds)
  | .lst ds => .list (pys ds)
  | .dI _ => .dict []
  | .dT _ => .dict []
  | .scr _ => .dict []
  | .obj _ _ => .dict []
def pys : List D → List PyData
  | [] => []
  | d :: ds => py d :: pys ds
end
mutual
def eqD : D → D → Bool
  | .non, .non => true
  | .bl a, .bl b => a == b
  | .bl a, .int j => (if a then 1 else 0) == j
  | .int i, .bl b => i == (if b then 1 else 0)
  | .int i, .int j => i == j
  | .str x, .str y => x == y
  | .tup xs, .tup ys => eqDs xs ys
  | .lst xs, .lst ys => eqDs xs ys
  | _, _ => false
def eqDs : List D → List D → Bool
  | [], [] => true
  | x :: xs, y :: ys => eqD x y && eqDs xs ys
  | _, _ => false
end
mutual
/-- no dict in it, and no deeper than n -/
def plD : Nat → D → Bool
  | _, .non => true
  | _, .bl _ => true
  | _, .int _ => true
  | _, .str x => PyData.strOk x
  | 0, .tup _ => false
  | 0, .lst _ => false
  | n + 1, .tup ds => plDs n ds
  | n + 1, .lst ds => plDs n ds
  | _, _ => false
def plDs : Nat → List D → Bool
  | _, [] => true
  | n, d :: ds => plD n d && plDs n ds
end
theorem plDs_iff {n : Nat} : ∀ {ds : List D}, plDs n ds = true ↔ ∀ d ∈ ds, plD n d = true
  | [] => by simp [plDs]
  | d :: ds => by rw [plDs, Bool.and_eq_true, plDs_iff (ds := ds)]; simp
mutual
theorem eqD_py : ∀ (d e : D) (n m : Nat), plD n d = true → plD m e = true → eqD d e = PyData.eqv (py d) (py e)
  | .tup xs, e, n, m, h1, h2 => by
    cases e with
    | tup ys =>
      cases n with
      | zero => cases h1
      | succ n =>
        cases m with
        | zero => cases h2
        | succ m =>
          rw [eqD, py, py, PyData.eqv]
          exact eqDs_py xs ys n m h1 h2
    | _ => rw [eqD] <;> first | rfl | (intros; rename_i h; cases h; done) | (intros; rename_i h _; cases h; done) | (simp [py, PyData.eqv])
  | .lst xs, e, n, m, h1, h2 => by
    cases e with
    | lst ys =>
      cases n with
      | zero => cases h1
      | succ n =>
        cases m with
        | zero => cases h2
        | succ m =>
          rw [eqD, py, py, PyData.eqv]
          exact eqDs_py xs ys n m h1 h2
    | _ => rw [eqD] <;> first | rfl | (intros; rename_i h; cases h; done) | (intros; rename_i h _; cases h; done) | (simp [py, PyData.eqv])
  | .non, e, _, _, _, _ => by cases e <;> simp [eqD, py, PyData.eqv]
  | .bl _, e, _, _, _, _ => by cases e <;> simp [eqD, py, PyData.eqv]
  | .int _, e, _, _, _, _ => by cases e <;> simp [eqD, py, PyData.eqv]
  | .str _, e, _, _, _, _ => by cases e <;> simp [eqD, py, PyData.eqv]
  | .dI _, _, n, _, h, _ => by cases n <;> cases h
  | .dT _, _, n, _, h, _ => by cases n <;> cases h
  | .scr _, _, n, _, h, _ => by cases n <;> cases h
  | .obj _ _, _, n, _, h, _ => by cases n <;> cases h
theorem eqDs_py : ∀ (ds es : List D) (n m : Nat), plDs n ds = true → plDs m es = true → eqDs ds es = PyData.eqvAll (pys ds) (pys es)
  | [], [], _, _, _, _ => rfl
  | [], _ :: _, _, _, _, _ => rfl
  | _ :: _, [], _, _, _, _ => rfl
  | d :: ds, e :: es, n, m, h1, h2 => by
    rw [plDs, Bool.and_eq_true] at h1 h2
    rw [eqDs, pys, pys, PyData.eqvAll, eqD_py d e n m h1.1 h2.1, eqDs_py ds es n m h1.2 h2.2]
end
mutual
theorem plD_ok : ∀ (d : D) (n : Nat), plD n d = true → PyData.canLay0 (py d) = true ∧ PyData.depth (py d) ≤ n
  | .tup xs, n, h => by
    cases n with
    | zero => cases h
    | succ n =>
      obtain ⟨h1, h2⟩ := plDs_ok xs n h
      rw [py, PyData.canLay0, PyData.depth]
      exact ⟨h1, by omega⟩
  | .lst xs, n, h => by
    cases n with
    | zero => cases h
    | succ n =>
      obtain ⟨h1, h2⟩ := plDs_ok xs n h
      rw [py, PyData.canLay0, PyData.depth]
      exact ⟨h1, by omega⟩
  | .non, n, _ => by simp [py, PyData.canLay0, PyData.depth]
  | .bl _, n, _ => by simp [py, PyData.canLay0, PyData.depth]
  | .int _, n, _ => by simp [py, PyData.canLay0, PyData.depth]
  | .str x, n, h => by
    have h : PyData.strOk x = true := by cases n <;> exact h
    simp [py, PyData.canLay0, PyData.depth, h]
  | .dI _, n, h => by cases n <;> cases h
  | .dT _, n, h => by cases n <;> cases h
  | .scr _, n, h => by cases n <;> cases h
  | .obj _ _, n, h => by cases n <;> cases h
theorem plDs_ok : ∀ (ds : List D) (n : Nat), plDs n ds = true → PyData.canLayAll0 (pys ds) = true ∧ PyData.depthAll (pys ds) ≤ n
  | [], n, _ => by simp [pys, PyData.canLayAll0, PyData.depthAll]
  | d :: ds, n, h => by
    rw [plDs, Bool.and_eq_true] at h
    obtain ⟨h1, h2⟩ := plD_ok d n h.1
    obtain ⟨h3, h4⟩ := plDs_ok ds n h.2
    rw [pys, PyData.canLayAll0, PyData.depthAll, h1, h3]
    exact ⟨rfl, by omega⟩
end
mutual
theorem plD_mono : ∀ (d : D) (n m : Nat), n ≤ m → plD n d = true → plD m d = true
  | .tup xs, n, m, l, h => by
    cases n with
    | zero => cases h
    | succ n =>
      cases m with
      | zero => omega
      | succ m => exact plDs_mono xs n m (by omega) h
  | .lst xs, n, m, l, h => by
    cases n with
    | zero => cases h
    | succ n =>
      cases m with
      | zero => omega
      | succ m => exact plDs_mono xs n m (by omega) h
  | .non, _, m, _, _ => by cases m <;> rfl
  | .bl _, _, m, _, _ => by cases m <;> rfl
  | .int _, _, m, _, _ => by cases m <;> rfl
  | .str x, n, m, _, h => by
    have h : PyData.strOk x = true := by cases n <;> exact h
    cases m <;> exact h
  | .dI _, n, _, _, h => by cases n <;> cases h
  | .dT _, n, _, _, h => by cases n <;> cases h
  | .scr _, n, _, _, h => by cases n <;> cases h
  | .obj _ _, n, _, _, h => by cases n <;> cases h
theorem plDs_mono : ∀ (ds : List D) (n m : Nat), n ≤ m → plDs n ds = true → plDs m ds = true
  | [], _, _, _, _ => by simp [plDs]
  | d :: ds, n, m, l, h => by
    rw [plDs, Bool.and_eq_true] at h ⊢
    exact ⟨plD_mono d n m l h.1, plDs_mono ds n m l h.2⟩
end
theorem plD_shaped {d : D} {n : Nat} (hn : n ≤ 64) (h : plD n d = true) : SeqAt.shaped (py d) = true := by
  obtain ⟨h1, h2⟩ := plD_ok d n h
  unfold SeqAt.shaped
  rw [h1, Bool.true_and]
  exact decide_eq_true (by omega)
mutual
theorem rep_dp {K : PySem.W.Frag} {Av : AS} {H : Hp} : ∀ (d : D) (n : Nat) (v : V), plD n d = true → Rep K Av H d v → Dp K H v (py d)
  | .tup xs, n, v, h, ⟨a, vs, e, na, ha, r⟩ => by
    cases n with
    | zero => cases h
    | succ n => subst e; rw [py]; exact .tup (SqT.of ha) (reps_dp xs n vs h r)
  | .lst xs, n, v, h, ⟨a, vs, e, na, ha, r⟩ => by
    cases n with
    | zero => cases h
    | succ n => subst e; rw [py]; exact .lst (SqL.of ha) (reps_dp xs n vs h r)
  | .non, _, v, _, r => by have r : v = .non := r; subst r; exact .non
  | .bl b, _, v, _, r => by have r : v = .bl b := r; subst r; exact .bl b
  | .int b, _, v, _, r => by have r : v = .int b := r; subst r; exact .int b
  | .str b, _, v, _, r => by have r : v = .str b := r; subst r; exact .str b
  | .dI _, n, _, h, _ => by cases n <;> cases h
  | .dT _, n, _, h, _ => by cases n <;> cases h
  | .scr _, n, _, h, _ => by cases n <;> cases h
  | .obj _ _, n, _, h, _ => by cases n <;> cases h
theorem reps_dp {K : PySem.W.Frag} {Av : AS} {H : Hp} : ∀ (ds : List D) (n : Nat) (vs : List V), plDs n ds = true → Reps K Av H ds vs → DpAll K H vs (pys ds)
  | [], _, vs, _, r => by have r : vs = [] := r; subst r; exact .nil
  | d :: ds, n, vs, h, ⟨v, r, e, r1, r2⟩ => by
    rw [plDs, Bool.and_eq_true] at h
    subst e
    exact .cons (rep_dp d n v h.1 r1) (reps_dp ds n r h.2 r2)
end
def eqOp (a b : D) : Option D := if plD 60 a = true ∧ plD 60 b = true then some (.bl (eqD a b)) else none
def neOp (a b : D) : Option D := if plD 60 a = true ∧ plD 60 b = true then some (.bl (!eqD a b)) else none
def inOp (x c : D) : Option D := match c with
  | .lst ds => if plD 60 x = true ∧ plDs 60 ds = true then some (.bl (ds.any fun z => eqD z x)) else none
  | .tup ds => if plD 60 x = true ∧ plDs 60 ds = true then some (.bl (ds.any fun z => eqD z x)) else none
  | _ => none
def notInOp (x c : D) : Option D := match c with
  | .lst ds => if plD 60 x = true ∧ plDs 60 ds = true then some (.bl (!ds.any fun z => eqD z x)) else none
  | .tup ds => if plD 60 x = true ∧ plDs 60 ds = true then some (.bl (!ds.any fun z => eqD z x)) else none
  | _ => none
theorem any_py {x : D} : ∀ {ds : List D}, plD 60 x = true → plDs 60 ds = true → ((pys ds).any fun z => PyData.eqv z (py x)) = ds.any fun z => eqD z x
  | [], _, _ => rfl
  | d :: ds, hx, h => by
    rw [plDs, Bool.and_eq_true] at h
    rw [pys, List.any_cons, List.any_cons, any_py hx h.2, eqD_py d x 60 60 h.1 hx]
section
variable {K : PySem.W.Frag}
theorem b_eq : Bin K (rEqD K) eqOp := ⟨fun {Av H a b d x y Q} av ra rb e q => by
  obtain ⟨⟨h1, h2⟩, rfl⟩ := ite_some e
  refine ⟨py a, py b, rep_dp a 60 x h1 ra, rep_dp b 60 y h2 rb, plD_shaped (by decide) h1, plD_shaped (by decide) h2, q _ H (Same.refl H) ?_⟩
  rw [eqD_py a b 60 60 h1 h2]
  rfl⟩
theorem b_ne : Bin K (rNeD K) neOp := ⟨fun {Av H a b d x y Q} av ra rb e q => by
  obtain ⟨⟨h1, h2⟩, rfl⟩ := ite_some e
  refine ⟨py a, py b, rep_dp a 60 x h1 ra, rep_dp b 60 y h2 rb, plD_shaped (by decide) h1, plD_shaped (by decide) h2, q _ H (Same.refl H) ?_⟩
  rw [eqD_py a b 60 60 h1 h2]
  rfl⟩
/-- in, not in: of a list, of a tuple -/
def rInA (K : PySem.W.Frag) (neg : Bool) : R2 := fun x y H Q => ∃ d ds, Dp K H x d ∧ (Dp K H y (.list ds) ∨ Dp K H y (.tuple ds)) ∧ SeqAt.shaped d = true ∧ SeqAt.shaped (.list ds) = true ∧ Q (.bl (if neg then !ds.any fun z => PyData.eqv z d else ds.any fun z => PyData.eqv z d)) H
theorem shaped_tl {ds : List PyData} (h : SeqAt.shaped (.list ds) = true) : SeqAt.shaped (.tuple ds) = true := by
  unfold SeqAt.shaped at h ⊢
  simpa [PyData.canLay0, PyData.depth] using h
theorem op_inA {X : Cx} (hu : X.A.units + 65 < cLine) : OpR X (compareOp .In) (rInA X.K false) := by
  intro pins s σ H x y v u Q I rx ry h
  obtain ⟨d, ds, hd, he, sd, se, q⟩ := h
  obtain ⟨as, r1⟩ := Dp.reads I d x v hd rx
  rcases he with he | he
  · obtain ⟨bs, r2⟩ := Dp.reads I (.list ds) y u he ry
    exact SeqAt.in_list_reads r2 r1 (SeqAt.canLay_of_shaped se) (SeqAt.canLay_of_shaped sd) (room_in_shaped sd hu) ⟨.bl _, H, I, rfl, q⟩
  · obtain ⟨bs, r2⟩ := Dp.reads I (.tuple ds) y u he ry
    exact SeqAt.in_tuple_reads r2 r1 (SeqAt.canLay_of_shaped se) (SeqAt.canLay_of_shaped sd) (room_in_shaped sd hu) ⟨.bl _, H, I, rfl, q⟩
theorem op_notInA {X : Cx} (hu : X.A.units + 65 < cLine) : OpR X (compareOp .NotIn) (rInA X.K true) := by
  intro pins s σ H x y v u Q I rx ry h
  obtain ⟨d, ds, hd, he, sd, se, q⟩ := h
  obtain ⟨as, r1⟩ := Dp.reads I d x v hd rx
  rcases he with he | he
  · obtain ⟨bs, r2⟩ := Dp.reads I (.list ds) y u he ry
    exact SeqAt.notIn_list_reads r2 r1 (SeqAt.canLay_of_shaped se) (SeqAt.canLay_of_shaped sd) (room_in_shaped sd hu) ⟨.bl _, H, I, rfl, q⟩
  · obtain ⟨bs, r2⟩ := Dp.reads I (.tuple ds) y u he ry
    exact SeqAt.notIn_tuple_reads r2 r1 (SeqAt.canLay_of_shaped se) (SeqAt.canLay_of_shaped sd) (room_in_shaped sd hu) ⟨.bl _, H, I, rfl, q⟩
theorem plDs_list {ds : List D} (h : plDs 60 ds = true) : SeqAt.shaped (.list (pys ds)) = true := plD_shaped (d := .lst ds) (n := 61) (by decide) h
theorem b_in : Bin K (rInA K false) inOp := ⟨fun {Av H a b d x y Q} av ra rb e q => by
  cases b with
  | lst ds =>
    obtain ⟨⟨h1, h2⟩, rfl⟩ := ite_some e
    refine ⟨py a, pys ds, rep_dp a 60 x h1 ra, .inl (rep_dp (.lst ds) 61 y h2 rb), plD_shaped (by decide) h1, plDs_list h2, q _ H (Same.refl H) ?_⟩
    rw [any_py h1 h2]; rfl
  | tup ds =>
    obtain ⟨⟨h1, h2⟩, rfl⟩ := ite_some e
    refine ⟨py a, pys ds, rep_dp a 60 x h1 ra, .inr (rep_dp (.tup ds) 61 y h2 rb), plD_shaped (by decide) h1, plDs_list h2, q _ H (Same.refl H) ?_⟩
    rw [any_py h1 h2]; rfl
  | non | bl _ | int _ | str _ | dI _ | dT _ | scr _ | obj _ _ => cases e⟩
theorem b_notin : Bin K (rInA K true) notInOp := ⟨fun {Av H a b d x y Q} av ra rb e q => by
  cases b with
  | lst ds =>
    obtain ⟨⟨h1, h2⟩, rfl⟩ := ite_some e
    refine ⟨py a, pys ds, rep_dp a 60 x h1 ra, .inl (rep_dp (.lst ds) 61 y h2 rb), plD_shaped (by decide) h1, plDs_list h2, q _ H (Same.refl H) ?_⟩
    rw [any_py h1 h2]; rfl
  | tup ds =>
    obtain ⟨⟨h1, h2⟩, rfl⟩ := ite_some e
    refine ⟨py a, pys ds, rep_dp a 60 x h1 ra, .inr (rep_dp (.tup ds) 61 y h2 rb), plD_shaped (by decide) h1, plDs_list h2, q _ H (Same.refl H) ?_⟩
    rw [any_py h1 h2]; rfl
  | non | bl _ | int _ | str _ | dI _ | dT _ | scr _ | obj _ _ => cases e⟩
end
/-- is None -/
def isNonD : D → Bool
  | .non => true
  | _ => false
def isNoneOp (a b : D) : Option D := match b with
  | .non => some (.bl (isNonD a))
  | _ => none
def notNoneOp (a b : D) : Option D := match b with
  | .non => some (.bl (!isNonD a))
  | _ => none
def isBlOp (a b : D) : Option D := match a, b with
  | .bl x, .bl y => some (.bl (decide (x = y)))
  | _, _ => none
def notBlOp (a b : D) : Option D := match a, b with
  | .bl x, .bl y => some (.bl (!decide (x = y)))
  | _, _ => none
section
variable {K : PySem.W.Frag}
theorem non_rep {Av : AS} {H : Hp} {a : D} {x : V} (r : Rep K Av H a x) : decide (x = .non) = isNonD a := by
  cases a with
  | non => have r : x = .non := r; subst r; rfl
  | bl _ | int _ | str _ => cases r; rfl
  | tup _ | lst _ | dI _ | dT _ => obtain ⟨a, vs, rfl, _⟩ := r; rfl
  | scr _ => obtain ⟨a, rfl, _⟩ := r; rfl
  | obj _ _ => exact False.elim r
theorem b_isN : Bin K (fun x y H Q => y = .non ∧ Q (.bl (decide (x = .non))) H) isNoneOp := ⟨fun {Av H a b d x y Q} av ra rb e q => by
  cases b <;> cases e
  exact ⟨rb, q _ H (Same.refl H) (by rw [non_rep ra]; rfl)⟩⟩
theorem b_notN : Bin K (fun x y H Q => y = .non ∧ Q (.bl (!decide (x = .non))) H) notNoneOp := ⟨fun {Av H a b d x y Q} av ra rb e q => by
  cases b <;> cases e
  exact ⟨rb, q _ H (Same.refl H) (by rw [non_rep ra]; rfl)⟩⟩
theorem b_isB : Bin K rIsB isBlOp := ⟨fun {Av H a b d x y Q} av ra rb e q => by
  cases a <;> cases b <;> cases e
  exact ⟨_, _, ra, rb, q _ H (Same.refl H) rfl⟩⟩
theorem b_notB : Bin K rNotB notBlOp := ⟨fun {Av H a b d x y Q} av ra rb e q => by
  cases a <;> cases b <;> cases e
  exact ⟨_, _, ra, rb, q _ H (Same.refl H) rfl⟩⟩
end

/-! ### sequences -/
def catT : D → D → Option D
  | .tup a, .tup b => if a.length + b.length ≤ 16777216 then some (.tup (a ++ b)) else none
  | _, _ => none
def catL : D → D → Option D
  | .lst a, .lst b => if a.length + b.length ≤ 16777216 then some (.lst (a ++ b)) else none
  | _, _ => none
def repL : D → D → Option D
  | .lst a, .int k => if 0 ≤ k ∧ k < 1000000000 ∧ a.length * k.toNat ≤ 16777216 then some (.lst ((List.replicate k.toNat a).flatten)) else none
  | _, _ => none
/-- + : ints, tuples -/
def addA (a b : D) : Option D := match a, b with
  | .int i, .int j => some (.int (i + j))
  | .tup a, .tup b => catT (.tup a) (.tup b)
  | _, _ => none
def ixD : D → D → Option D
  | .lst ds, .int i => atI ds i
  | .tup ds, .int i => atI ds i
  | .scr ns, .int i => (atI ns i).map .int
  | _, _ => none
section
variable {K : PySem.W.Frag}
theorem Reps.same {Av : AS} {H H' : Hp} (s : Same H H') {ds : List D} {vs : List V} (r : Reps K Av H ds vs) : Reps K Av H' ds vs := Reps.mono (fun a o e _ => s a o e) (fun _ _ z => z) _ _ r
theorem Reps.samep {Av : AS} {H H' : Hp} {p : Addr} (s : Same H H') (hp : H p = none) {ds : List D} {vs : List V} (r : Reps K Av H ds vs) : Reps K (fun a => Av a ∨ a = p) H' ds vs := Reps.mono (fun a o e _ => s a o e) (fun a hn z => z.elim id fun z => absurd hp (z ▸ hn)) _ _ r
theorem nil_of_len {ds : List D} {vs : List V} {Av : AS} {H : Hp} (r : Reps K Av H ds vs) : vs = [] ↔ ds = [] := by
  have := r.length
  cases ds <;> cases vs <;> simp at this ⊢
theorem b_catT : Bin K (rCatA K) catT := ⟨fun {Av H a b d x y Q} av ra rb e q => by
  cases a <;> cases b <;> first | (cases e; done) | skip
  obtain ⟨hl, rfl⟩ := ite_some e
  obtain ⟨p, vs, rfl, np, hp, r1⟩ := id ra
  obtain ⟨p2, vs2, rfl, np2, hp2, r2⟩ := id rb
  refine ⟨p, p2, vs, vs2, rfl, rfl, SqT.of hp, SqT.of hp2, by rw [r1.length, r2.length, line_eq]; exact hl, fun e => ?_, fun _ e => ?_, fun _ _ t ht => ?_⟩
  · have := (nil_of_len r1).mp e
    subst this
    exact q _ H (Same.refl H) rb
  · have := (nil_of_len r2).mp e
    subst this
    refine q _ H (Same.refl H) ?_
    rw [List.append_nil]
    exact ra
  · exact q _ _ (same_new ht) ⟨t, _, rfl, av.new ht, upd_same, (r1.append r2).same (same_new ht)⟩⟩
def rAddA (K : PySem.W.Frag) : R2 := fun x y H Q => rI0 (fun i j => .int (i + j)) x y H Q ∨ rCatA K x y H Q
theorem op_addA {X : Cx} : OpR X (binaryOp .Add) (rAddA X.K) := op_add.or op_catA
theorem b_addA : Bin K (rAddA K) addA := ⟨fun {Av H a b d x y Q} av ra rb e q => by
  cases a with
  | int i =>
    cases b <;> first | (cases e; done) | skip
    exact .inl (b_add.ok av ra rb e q)
  | tup as =>
    cases b <;> first | (cases e; done) | skip
    exact .inr (b_catT.ok av ra rb e q)
  | non | bl _ | str _ | lst _ | dI _ | dT _ | scr _ | obj _ _ => cases b <;> cases e⟩
theorem b_catL : BinF K rCat catL := ⟨fun {Av H a b d x y Q} av ra rb e q => by
  cases a <;> cases b <;> first | (cases e; done) | skip
  obtain ⟨hl, rfl⟩ := ite_some e
  obtain ⟨p, vs, rfl, np, hp, r1⟩ := ra
  obtain ⟨p2, vs2, rfl, np2, hp2, r2⟩ := rb
  refine ⟨p, p2, vs, vs2, rfl, rfl, hp, hp2, by rw [r1.length, r2.length, line_eq]; exact hl, fun t ht => ?_⟩
  exact q t _ _ (same_new ht) ht ⟨rfl, _, upd_same, (r1.append r2).samep (same_new ht) ht⟩⟩
theorem reps_rep {Av : AS} {H : Hp} {ds : List D} {vs : List V} (r : Reps K Av H ds vs) : ∀ n, Reps K Av H (List.replicate n ds).flatten (List.replicate n vs).flatten
  | 0 => rfl
  | n + 1 => by rw [List.replicate_succ, List.replicate_succ, List.flatten_cons, List.flatten_cons]; exact r.append (reps_rep r n)
theorem b_ix : Bin K (rIx K) ixD := ⟨fun {Av H a b d x y Q} av ra rb e q => by
  cases b with
  | int i =>
    have rb : y = .int i := rb
    subst rb
    have key : ∀ {ds : List D} {vs : List V}, Reps K Av H ds vs → atI ds i = some d → ∃ v, atI vs i = some v ∧ Rep K Av H d v := fun {ds vs} r e => by
      unfold atI at e ⊢
      rw [r.length]
      cases h : ixN ds.length i with
      | none => rw [h] at e; cases e
      | some j =>
        rw [h] at e
        exact r.get (i := j) e
    cases a with
    | lst ds =>
      obtain ⟨p, vs, rfl, np, hp, r1⟩ := ra
      obtain ⟨v, hv, rv⟩ := key r1 e
      exact .inl ⟨p, vs, i, v, rfl, rfl, SqL.of hp, hv, q v H (Same.refl H) rv⟩
    | tup ds =>
      obtain ⟨p, vs, rfl, np, hp, r1⟩ := ra
      obtain ⟨v, hv, rv⟩ := key r1 e
      exact .inr (.inl ⟨p, vs, i, v, rfl, rfl, SqT.of hp, hv, q v H (Same.refl H) rv⟩)
    | scr ns =>
      have hs : ∃ p, x = .ref p := let ⟨p, e, _⟩ := ra; ⟨p, e⟩
      obtain ⟨p, rfl⟩ := hs
      have e : (atI ns i).map D.int = some d := e
      cases h : atI ns i with
      | none => rw [h] at e; cases e
      | some n =>
        rw [h] at e
        cases e
        refine .inl ⟨p, _, i, .int n, rfl, rfl, scr_seq ra, ?_, q _ H (Same.refl H) rfl⟩
        unfold atI at h ⊢
        rw [List.length_map]
        cases h2 : ixN ns.length i with
        | none => rw [h2] at h; cases h
        | some j =>
          rw [h2] at h
          have h : ns[j]? = some n := h
          show (ns.map V.int)[j]? = _
          rw [List.getElem?_map, h]; rfl
    | non | bl _ | int _ | str _ | dI _ | dT _ | obj _ _ => cases e
  | non | bl _ | str _ | tup _ | lst _ | dI _ | dT _ | scr _ | obj _ _ => cases a <;> cases e⟩
end
def lenF : List D → Option D
  | [.lst ds] => some (.int ds.length)
  | [.tup ds] => some (.int ds.length)
  | [.scr ns] => some (.int ns.length)
  | _ => none
def lenDictF : List D → Option D
  | [.dI kvs] => some (.int kvs.length)
  | [.dT kvs] => some (.int kvs.length)
  | _ => none
def blsOf : List D → Option (List Bool)
  | [] => some []
  | .bl n :: ds => (blsOf ds).map (n :: ·)
  | _ => none
theorem bls_map : ∀ {ds : List D} {ns : List Bool}, blsOf ds = some ns → ds = ns.map D.bl
  | [], ns, h => by cases h; rfl
  | .bl n :: ds, ns, h => by
    cases e : blsOf ds with
    | none => rw [blsOf, e] at h; cases h
    | some ms =>
      rw [blsOf, e] at h
      cases h
      rw [bls_map e]; rfl
  | .non :: _, _, h | .int _ :: _, _, h | .str _ :: _, _, h | .tup _ :: _, _, h | .lst _ :: _, _, h | .dI _ :: _, _, h | .dT _ :: _, _, h | .scr _ :: _, _, h | .obj _ _ :: _, _, h => by cases h
theorem blsOf_map (ns : List Bool) : blsOf (ns.map D.bl) = some ns := by
  induction ns with
  | nil => rfl
  | cons n ns ih => rw [List.map_cons, blsOf, ih]; rfl
def allF : List D → Option D
  | [.lst ds] => (blsOf ds).map fun bs => .bl (bs.all id)
  | _ => none
def anyF : List D → Option D
  | [.lst ds] => (blsOf ds).map fun bs => .bl (bs.any id)
  | _ => none
def sumF : List D → Option D
  | [.lst ds] => (intsOf ds).map fun ns => .int ns.sum
  | _ => none
def min2F : List D → Option D
  | [.int i, .int j] => some (.int (if j < i then j else i))
  | _ => none
def max2F : List D → Option D
  | [.int i, .int j] => some (.int (if j > i then j else i))
  | _ => none
def intF : List D → Option D
  | [.int i] => some (.int i)
  | [.bl b] => some (.int (if b then 1 else 0))
  | _ => none
def tupF : List D → Option D
  | [.lst ds] => some (.tup ds)
  | [.tup ds] => some (.tup ds)
  | _ => none
def lstF : List D → Option D
  | [.lst ds] => some (.lst ds)
  | [.tup ds] => some (.lst ds)
  | _ => none
section
variable {K : PySem.W.Frag}
theorem Reps.inv1 {Av : AS} {H : Hp} {d : D} {vs : List V} (r : Reps K Av H [d] vs) : ∃ v, vs = [v] ∧ Rep K Av H d v := by
  obtain ⟨v, t, rfl, h, e⟩ := r
  have e : t = [] := e
  subst e
  exact ⟨v, rfl, h⟩
theorem Reps.inv2 {Av : AS} {H : Hp} {d e : D} {vs : List V} (r : Reps K Av H [d, e] vs) : ∃ v w, vs = [v, w] ∧ Rep K Av H d v ∧ Rep K Av H e w := by
  obtain ⟨v, t, rfl, h, r⟩ := r
  obtain ⟨w, rfl, h2⟩ := Reps.inv1 r
  exact ⟨v, w, rfl, h, h2⟩
theorem Reps.bls {Av : AS} {H : Hp} : ∀ {ns : List Bool} {vs : List V}, Reps K Av H (ns.map D.bl) vs → vs = ns.map V.bl
  | [], _, h => h
  | n :: ns, vs, ⟨v, r, e, h1, h2⟩ => by
    have h1 : v = .bl n := h1
    rw [e, h1, Reps.bls h2]; rfl
theorem c_len : Cal K (fun xs H Q => ∃ p ys, xs = [.ref p] ∧ (SqL K H p ys ∨ SqT K H p ys) ∧ Q (.int ys.length) H) lenF := ⟨fun {Av H ds d xs Q} av r e q => by
  match ds, e with
  | [.lst as], e =>
    cases e
    obtain ⟨v, rfl, p, vs, rfl, np, hp, rr⟩ := r.inv1
    exact ⟨p, vs, rfl, .inl (SqL.of hp), q _ H (Same.refl H) (by rw [rr.length]; rfl)⟩
  | [.tup as], e =>
    cases e
    obtain ⟨v, rfl, p, vs, rfl, np, hp, rr⟩ := r.inv1
    exact ⟨p, vs, rfl, .inr (SqT.of hp), q _ H (Same.refl H) (by rw [rr.length]; rfl)⟩
  | [.scr ns], e =>
    cases e
    obtain ⟨v, rfl, rr⟩ := r.inv1
    obtain ⟨p, rfl, _⟩ := id rr
    exact ⟨p, _, rfl, .inl (scr_seq rr), q _ H (Same.refl H) (by rw [List.length_map]; rfl)⟩⟩
theorem c_all : Cal K (rAll K) allF := ⟨fun {Av H ds d xs Q} av r e q => by
  match ds, e with
  | [.lst as], e =>
    obtain ⟨v, rfl, p, vs, rfl, np, hp, rr⟩ := r.inv1
    have e : (blsOf as).map (fun bs => D.bl (bs.all id)) = some d := e
    cases h : blsOf as with
    | none => rw [h] at e; cases e
    | some bs =>
      rw [h] at e
      cases e
      have h := bls_map h
      subst h
      have := rr.bls
      subst this
      exact ⟨p, bs, rfl, SqL.of hp, q _ H (Same.refl H) rfl⟩⟩
theorem c_any : Cal K (rAny K) anyF := ⟨fun {Av H ds d xs Q} av r e q => by
  match ds, e with
  | [.lst as], e =>
    obtain ⟨v, rfl, p, vs, rfl, np, hp, rr⟩ := r.inv1
    have e : (blsOf as).map (fun bs => D.bl (bs.any id)) = some d := e
    cases h : blsOf as with
    | none => rw [h] at e; cases e
    | some bs =>
      rw [h] at e
      cases e
      have h := bls_map h
      subst h
      have := rr.bls
      subst this
      exact ⟨p, bs, rfl, SqL.of hp, q _ H (Same.refl H) rfl⟩⟩
theorem c_sum : Cal K (rSum K) sumF := ⟨fun {Av H ds d xs Q} av r e q => by
  match ds, e with
  | [.lst as], e =>
    obtain ⟨v, rfl, p, vs, rfl, np, hp, rr⟩ := r.inv1
    have e : (intsOf as).map (fun ns => D.int ns.sum) = some d := e
    cases h : intsOf as with
    | none => rw [h] at e; cases e
    | some bs =>
      rw [h] at e
      cases e
      have h := ints_mapM h
      subst h
      have := Reps.ints.mp rr
      subst this
      exact ⟨p, bs, rfl, SqL.of hp, q _ H (Same.refl H) rfl⟩⟩
theorem c_min2 : Cal K (fun xs H Q => ∃ i j, xs = [.int i, .int j] ∧ Q (.int (if j < i then j else i)) H) min2F := ⟨fun {Av H ds d xs Q} av r e q => by
  match ds, e with
  | [.int i, .int j], e =>
    cases e
    obtain ⟨v, w, rfl, h1, h2⟩ := r.inv2
    have h1 : v = .int i := h1
    have h2 : w = .int j := h2
    subst h1 h2
    exact ⟨i, j, rfl, q _ H (Same.refl H) rfl⟩⟩
theorem c_max2 : Cal K (fun xs H Q => ∃ i j, xs = [.int i, .int j] ∧ Q (.int (if j > i then j else i)) H) max2F := ⟨fun {Av H ds d xs Q} av r e q => by
  match ds, e with
  | [.int i, .int j], e =>
    cases e
    obtain ⟨v, w, rfl, h1, h2⟩ := r.inv2
    have h1 : v = .int i := h1
    have h2 : w = .int j := h2
    subst h1 h2
    exact ⟨i, j, rfl, q _ H (Same.refl H) rfl⟩⟩
theorem c_int : Cal K (fun xs H Q => (∃ i, xs = [.int i] ∧ Q (.int i) H) ∨ ∃ k, xs = [.bl k] ∧ Q (.int (if k then 1 else 0)) H) intF := ⟨fun {Av H ds d xs Q} av r e q => by
  match ds, e with
  | [.int i], e =>
    cases e
    obtain ⟨v, rfl, h1⟩ := r.inv1
    have h1 : v = .int i := h1
    subst h1
    exact .inl ⟨i, rfl, q _ H (Same.refl H) rfl⟩
  | [.bl i], e =>
    cases e
    obtain ⟨v, rfl, h1⟩ := r.inv1
    have h1 : v = .bl i := h1
    subst h1
    exact .inr ⟨i, rfl, q _ H (Same.refl H) rfl⟩⟩
theorem c_tuple : Cal K (fun xs H Q => ∃ p ys, xs = [.ref p] ∧ ((SqL K H p ys ∧ ∀ l, H l = none → Q (.ref l) (upd H l (.tup ys))) ∨ (SqT K H p ys ∧ Q (.ref p) H))) tupF := ⟨fun {Av H ds d xs Q} av r e q => by
  match ds, e with
  | [.lst as], e =>
    cases e
    obtain ⟨v, rfl, p, vs, rfl, np, hp, rr⟩ := r.inv1
    exact ⟨p, vs, rfl, .inl ⟨SqL.of hp, fun t ht => q _ _ (same_new ht) ⟨t, _, rfl, av.new ht, upd_same, rr.same (same_new ht)⟩⟩⟩
  | [.tup as], e =>
    cases e
    obtain ⟨v, rfl, rr⟩ := r.inv1
    obtain ⟨p, vs, rfl, np, hp, r2⟩ := id rr
    exact ⟨p, vs, rfl, .inr ⟨SqT.of hp, q _ H (Same.refl H) rr⟩⟩⟩
theorem c_list : CalF K (fun xs H Q => ∃ p ys, xs = [.ref p] ∧ (SqL K H p ys ∨ SqT K H p ys) ∧ ∀ l, H l = none → Q (.ref l) (upd H l (.lst ys))) lstF := ⟨fun {Av H ds d xs Q} av r e q => by
  match ds, e with
  | [.lst as], e =>
    cases e
    obtain ⟨v, rfl, p, vs, rfl, np, hp, rr⟩ := r.inv1
    exact ⟨p, vs, rfl, .inl (SqL.of hp), fun t ht => q t _ _ (same_new ht) ht ⟨rfl, _, upd_same, rr.samep (same_new ht) ht⟩⟩
  | [.tup as], e =>
    cases e
    obtain ⟨v, rfl, p, vs, rfl, np, hp, rr⟩ := r.inv1
    exact ⟨p, vs, rfl, .inr (SqT.of hp), fun t ht => q t _ _ (same_new ht) ht ⟨rfl, _, upd_same, rr.samep (same_new ht) ht⟩⟩⟩
end

/-! ### list(range(..)), tuple(range(..)) -/
def dLstRg (t : DE) : DE := fun env k x => t env (fun d e => ∃ n, d = .int n ∧ (-1000000 < n ∧ n < 1000000) ∧ k (.lst (rangeL 0 n)) e) x
def dTupRg (t : DE) : DE := fun env k x => t env (fun d e => ∃ n, d = .int n ∧ (-1000000 < n ∧ n < 1000000) ∧ k (.tup (rangeL 0 n)) e) x
theorem reps_rg {K : PySem.W.Frag} {Av : AS} {H : Hp} (a b : Int) : Reps K Av H (rangeL a b) (rgV a b) := by
  unfold rangeL rgV
  rw [show (List.range (b - a).toNat).map (fun i => D.int (a + (i : Nat))) = ((List.range (b - a).toNat).map fun i => a + ((i : Nat) : Int)).map D.int by rw [List.map_map]; rfl]
  rw [Reps.ints, List.map_map]
  rfl
section
variable {X : Cx} {W : HW} {e : Expr} {p q pos : Pos} {t : DE}
theorem de_lstRg (hc : X.calm = true) (hg : Gl X "list") (hm : X.mg "list" = none) (hg2 : Gl X "range") (hm2 : X.mg "range" = none) (h : PE X e (up X.K W t)) (na : starEach [.Call (.Name "range" q) [e] [] p] X.env = (false, eval (.Call (.Name "range" q) [e] [] p) X.env) :: starEach [] X.env := by rfl)
    (nb : starEach [e] X.env = (false, eval e X.env) :: starEach [] X.env := by rfl) {p2 : Pos} : PE X (.Call (.Name "list" p2) [.Call (.Name "range" q) [e] [] p] [] pos) (upF X.K W (dLstRg t)) := by
  refine pe_conv (pe_listRg hc hg hm (prg_1 hg2 hm2 h nb) na) fun σ H Q h => ?_
  obtain ⟨C, M, env, k, x, R, h, hk, hx⟩ := h
  refine ⟨C, M, env, _, x, R, h, fun a e1 v H1 M1 h1 R1 k1 g1 r1 => ?_, hx⟩
  obtain ⟨n, rfl, hn, kd⟩ := h1
  have r1 : v = .int n := r1
  refine ⟨n, r1, ⟨by decide, by decide, by omega, by omega, by omega⟩, fun t ht => ?_⟩
  exact R1.finF k1 g1 kd hk t _ _ (same_new ht) ht ⟨rfl, _, upd_same, reps_rg 0 n⟩
theorem de_tupRg (hc : X.calm = true) (hg : Gl X "tuple") (hm : X.mg "tuple" = none) (hg2 : Gl X "range") (hm2 : X.mg "range" = none) (h : PE X e (up X.K W t)) (na : starEach [.Call (.Name "range" q) [e] [] p] X.env = (false, eval (.Call (.Name "range" q) [e] [] p) X.env) :: starEach [] X.env := by rfl)
    (nb : starEach [e] X.env = (false, eval e X.env) :: starEach [] X.env := by rfl) {p2 : Pos} : PE X (.Call (.Name "tuple" p2) [.Call (.Name "range" q) [e] [] p] [] pos) (up X.K W (dTupRg t)) := by
  refine pe_conv (pe_tupRg hc hg hm (prg_1 hg2 hm2 h nb) na) fun σ H Q h => ?_
  obtain ⟨C, M, env, k, x, R, h, hk, hx⟩ := h
  refine ⟨C, M, env, _, x, R, h, fun a e1 v H1 M1 h1 R1 k1 g1 r1 => ?_, hx⟩
  obtain ⟨n, rfl, hn, kd⟩ := h1
  have r1 : v = .int n := r1
  refine ⟨n, r1, ⟨by decide, by decide, by omega, by omega, by omega⟩, fun t ht => ?_⟩
  exact R1.fin k1 g1 kd hk _ _ (same_new ht) ⟨t, _, rfl, R1.avt.new ht, upd_same, reps_rg 0 n⟩
end

/-! ### isinstance(x, T), T a built-in type -/
def tyD : D → Option String
  | .non => some "NoneType"
  | .bl _ => some "bool"
  | .int _ => some "int"
  | .str _ => some "str"
  | .tup _ => some "tuple"
  | .lst _ => some "list"
  | _ => none
/-- the answers that are asked here -/
def isiT (t T : String) : Bool := t == T || (t == "bool" && T == "int")
def dIsi (T : String) (t : DE) : DE := fun env k x => t env (fun d e => ∃ s, tyD d = some s ∧ k (.bl (isiT s T)) e) x
theorem tyX_of {K : PySem.W.Frag} {Av : AS} {H : Hp} {d : D} {v : V} {s : String} (r : Rep K Av H d v) (h : tyD d = some s) : TyX K H v (.type s) := by
  cases d with
  | non => cases h; have r : v = .non := r; subst r; exact .base .non
  | bl b => cases h; have r : v = .bl b := r; subst r; exact .base (.bl b)
  | int b => cases h; have r : v = .int b := r; subst r; exact .base (.int b)
  | str b => cases h; have r : v = .str b := r; subst r; exact .base (.str b)
  | tup ds => cases h; obtain ⟨a, vs, rfl, _, ha, _⟩ := r; exact .base (.tup ha)
  | lst ds => cases h; obtain ⟨a, vs, rfl, _, ha, _⟩ := r; exact .base (.lst ha)
  | dI _ | dT _ | scr _ | obj _ _ => cases h
theorem kitB_all : ∀ t ∈ ["NoneType", "bool", "int", "str", "tuple", "list"], ∀ T ∈ ["bool", "int", "tuple", "list"], kitB t T = some (isiT t T) := by decide +kernel
theorem tyD_mem {d : D} {s : String} (h : tyD d = some s) : s ∈ ["NoneType", "bool", "int", "str", "tuple", "list"] := by
  cases d <;> cases h <;> decide
theorem de_isi {X : Cx} {W : HW} {e : Expr} {p q pos : Pos} {t : DE} {T : String} (hT : T ∈ ["bool", "int", "tuple", "list"]) (hg : Gl X "isinstance") (hm : X.mg "isinstance" = none) {y : Str} (ht : PE X (.Name y q) (tC (.ty T))) (h : PE X e (up X.K W t))
    (he : starEach [e, .Name y q] X.env = (false, eval e X.env) :: starEach [.Name y q] X.env := by rfl) (he2 : starEach [.Name y q] X.env = (false, eval (.Name y q) X.env) :: starEach [] X.env := by rfl) (hpl : (backTo pos (starEach [.Name y q] X.env)).any (·.1) = false := by rfl) :
    PE X (.Call (.Name "isinstance" p) [e, .Name y q] [] pos) (up X.K W (dIsi T t)) := by
  refine pe_conv (pe_callB call_isi hg hm (by decide +kernel) (pa_cons h (pa_cons ht pa_nil he2) he) (by decide) (by decide) he hpl) fun σ H Q h => ?_
  obtain ⟨C, M, env, k, x, R, h, hk, hx⟩ := h
  refine ⟨C, M, env, _, x, R, h, fun a e1 v H1 M1 h1 R1 k1 g1 r1 => ?_, hx⟩
  obtain ⟨s, hs, kd⟩ := h1
  exact ⟨v, .ty T, .type s, .type T, isiT s T, rfl, .ty T, tyX_of r1 hs, kit_ty (kitB_all s (tyD_mem hs) T hT), R1.fin k1 g1 kd hk _ H1 (Same.refl _) rfl⟩
end FX

set_option Elab.async false
set_option linter.all false
set_option maxRecDepth 100000
/-! FxJ: sorting lists, dicts, sets of alike data, any length, tuples without items too -/
namespace FX
section
open PySem PySem.Spec PyProof.Rows PySem.W PySem.SeqAt

section
variable {prog : Program} {w : World} {A : Around} {E : Value → Shared → Prop} {s : Shared}
/-- a tuple's own less-than, as a sort of one type asks it -/
theorem call_tup_lt {Q : Value → Shared → Prop} {l b : Addr} {items items2 : Array Value} {e r : Nat → Bool} (hl : s.heap.IsTuple l items) (hb : s.heap.IsTuple b items2)
    (he : ∀ j (h1 : j < items.size) (h2 : j < items2.size), EqAt A.in1 s items[j] items2[j] (e j)) (hr : ∀ j (h1 : j < items.size) (h2 : j < items2.size), e j = false → RcLt A.in1 s items[j] items2[j] (r j))
    (h : Q (.bool (firstLt e r (decide (items.size < items2.size)) (List.range (min items.size items2.size)))) s) : wpAny (model prog w) A (call (.builtin "tuple.__lt__") [.ref l, .ref b]) Q E s := by
  obtain ⟨⟨cls, dd, data, sl⟩, ho, hc, n, hd⟩ := id hl
  obtain ⟨⟨cls2, dd2, data2, sl2⟩, ho2, hc2, n2, hd2⟩ := id hb
  simp only at hc hd hc2 hd2
  subst hc hd hc2 hd2
  exact call_meets PySem.F.slot_tuple_lt ⟨_, ho, rfl⟩ PySem.F.entry_tuple_lt (PySem.F.args_tuple_lt_2 _ _) (tuple_ltAt l b items items2 n n2 dd dd2 sl sl2 e r) ⟨ho, ho2, he, hr, h⟩
theorem oneLt_tup {xs ys : List PyData} {a b : Value} {as bs : List Addr} {Q : Bool → Shared → Prop} (ra : Reads s.heap a (.tuple xs) as) (rb : Reads s.heap b (.tuple ys) bs) (h : alike (.tuple xs) (.tuple ys) = true)
    (hu : A.units + min (PyData.tuple xs).depth (PyData.tuple ys).depth < cLine) (hq : Q (dataLt (.tuple xs) (.tuple ys)) s) : wpAny (model prog w) A (oneLt' true a b) Q E s := by
  have hal : alikeAll xs ys = true := by simpa [alike] using h
  cases ra with
  | @tuple l o vs n _ as₁ h1 h2 h3 h4 =>
    cases rb with
    | @tuple l' o' vs' n' _ bs₁ k1 k2 k3 k4 =>
      have n1 : vs.size = xs.length := by simpa using SeqAt.ReadsAll.length _ _ _ h4
      have n2 : vs'.size = ys.length := by simpa using SeqAt.ReadsAll.length _ _ _ k4
      rw [dataLt_tuple, ← firstLt_toks xs ys hal, ← n1, ← n2] at hq
      rw [oneLt'_eq]
      simp only [if_true]
      refine wpAny_bind (wpAny_cRoomFor (room_here hu) ?_)
      refine wpAny_bind (wpAny_callSpecialIfBound?_slot (T := "tuple") ⟨_, h1, h2⟩ PySem.F.slot_tuple_lt (call_tup_lt (e := pairEq xs ys) (r := fun j => dataLt (xs.getD j .none) (ys.getD j .none)) ⟨_, h1, h2, _, h3⟩ ⟨_, k1, k2, _, k3⟩ (fun j j1 j2 => ?_) (fun j j1 j2 hj => ?_) ?_))
      · have := eqAt_alikeAll xs ys A.in1 s vs.toList vs'.toList _ _ h4 k4 hal (room_in hu) j (by simpa using j1) (by simpa using j2)
        simpa using this
      · have := rcLt_alikeAll xs ys A.in1 s vs.toList vs'.toList _ _ h4 k4 hal (room_in hu) j (by simpa using j1) (by simpa using j2) hj
        simpa using this
      · exact wpAny_truthy_bool hq

/-- the first items of tuples -/
inductive Fsts (h : Heap) : List Value → List PyData → List (Option Value) → Prop
  | nil : Fsts h [] [] []
  | cons {a : Addr} {o : Obj} {its : Array Value} {n : Nat} {vs : List Value} {xs : List PyData} {ds : List PyData} {fs : List (Option Value)} : h.get? a = some o → o.cls = .type "tuple" → o.data = .seq its n → (its[0]?.isSome = !xs.isEmpty) → Fsts h vs ds fs → Fsts h (.ref a :: vs) (.tuple xs :: ds) (its[0]? :: fs)
theorem fsts_of {h : Heap} : ∀ {vs : List Value} {ds : List PyData}, EachIs (fun v d => ∃ as, Reads h v d as) vs ds → (∀ d, d ∈ ds → ∃ xs, d = .tuple xs) → ∃ fs, Fsts h vs ds fs
  | _, _, .nil, _ => ⟨[], .nil⟩
  | _, _, .cons (b := d) ⟨as, r⟩ t, ht => by
    obtain ⟨fs, h1⟩ := fsts_of t fun d hd => ht d (List.mem_cons_of_mem _ hd)
    obtain ⟨xs, rfl⟩ := ht d (List.mem_cons_self ..)
    cases r with
    | @tuple a o its n _ _ ho hc hd hr =>
      refine ⟨_, .cons ho hc hd ?_ h1⟩
      have e : its.toList.length = xs.length := SeqAt.ReadsAll.length _ _ _ hr
      rw [Array.length_toList] at e
      cases xs with
      | nil =>
        have : its.size = 0 := e
        simp [this]
      | cons x xs =>
        have : 0 < its.size := by rw [e]; simp
        simp [this]
theorem Fsts.length {h : Heap} {vs : List Value} {ds : List PyData} {fs : List (Option Value)} (t : Fsts h vs ds fs) : fs.length = vs.length := by
  induction t with
  | nil => rfl
  | cons _ _ _ _ _ ih => rw [List.length_cons, List.length_cons, ih]
theorem run_fsts {M : Model} : ∀ {vs : List Value} {ds : List PyData} {fs : List (Option Value)} {Q : List (Option Value) → Shared → Prop}, Fsts s.heap vs ds fs → Q fs s → wpAny M A (vs.mapM firstOfTuple') Q E s
  | _, _, _, _, .nil, h => by rw [List.mapM_nil]; exact wpAny_pure h
  | _, _, _, Q, .cons (a := a) (o := o) (vs := vs) (fs := fs) (its := its) ho hc hd _ t, h => by
    rw [List.mapM_cons]
    refine wpAny_bind ?_
    rw [kas_first_eq]
    refine wpAny_bind (Looks.here (show Looks M s.heap (typeOf (.ref a)) o.cls from (Looks.ld ho).andThen .now) ?_)
    rw [hc, if_neg (by first | decide | simp)]
    refine wpAny_bind (listItems_at ho hd (wpAny_pure ?_))
    exact wpAny_bind (run_fsts (Q := fun bs s' => wpAny M A (pure (its[0]? :: bs)) Q E s') t (wpAny_pure h))

/-- values that read as alike tuples can be sorted, tuples without items too -/
theorem sorts_tups {vs : List Value} {ds : List PyData} (e : EachIs (fun v d => ∃ as, Reads s.heap v d as) vs ds) (hal : AllAlike ds) (ht : ∀ d, d ∈ ds → ∃ xs, d = .tuple xs) (hu : ∀ d, d ∈ ds → A.units + d.depth < cLine) : SortsAt prog w A s (dataKind s.heap ds) vs := by
  rcases Classical.em (∀ d, d ∈ ds → ∃ x r, d = .tuple (x :: r)) with hne | hne
  · exact SortsAt.data e hal (.inl hne) hu
  obtain ⟨fs, F⟩ := fsts_of e ht
  have some_no : fs.toArray.all (·.isSome) = false := by
    rw [List.all_toArray, Bool.eq_false_iff]
    intro c
    refine hne ?_
    clear hne hu hal e
    induction F with
    | nil => intro d hd; cases hd
    | @cons a o its n vs xs ds fs h1 h2 h3 h4 _ ih =>
      rw [List.all_cons, Bool.and_eq_true] at c
      intro d hd
      rcases List.mem_cons.mp hd with rfl | hd
      · rw [h4] at c
        cases xs with
        | nil => exact absurd c.1 (by decide)
        | cons x xs => exact ⟨x, xs, rfl⟩
      · exact ih (fun d hd => ht d (List.mem_cons_of_mem _ hd)) c.2 d hd
  have room : ∀ {d d' : PyData}, d ∈ ds → A.units + min d.depth d'.depth < cLine := fun {d d'} hd => Nat.lt_of_le_of_lt (Nat.add_le_add_left (Nat.min_le_left _ _) _) (hu d hd)
  refine ⟨fun v hv => ?_, ?_⟩
  · obtain ⟨d, hd, as, r⟩ := e.left v hv
    exact ⟨_, dataKind_some hal hd r⟩
  by_cases h0 : (fs.toArray[0]?.bind id).isSome = true
  · refine ⟨general', fun E x y a b Q ha hb hq => ?_, fun h2 E Q hq => ?_⟩
    · obtain ⟨d, as, hd, ra, rfl⟩ := dataKind_inv ha
      obtain ⟨d', as', hd', rb, rfl⟩ := dataKind_inv hb
      obtain ⟨xs, rfl⟩ := ht d hd
      show wpAny _ _ (oneLt' false x y) _ _ _
      exact oneLt_alike (fun c => by cases c) ra rb (hal _ hd d' hd') (by simp) (room hd) hq
    · rw [keyKind'_eq, List.mapM_toArray, map_eq_pure_bind]
      refine wpAny_bind (wpAny_bind (run_fsts F (wpAny_pure ?_)))
      rw [if_neg (by rw [some_no]; simp), if_pos h0]
      exact wpAny_pure hq
  · refine ⟨oneType', fun E x y a b Q ha hb hq => ?_, fun h2 E Q hq => ?_⟩
    · obtain ⟨d, as, hd, ra, rfl⟩ := dataKind_inv ha
      obtain ⟨d', as', hd', rb, rfl⟩ := dataKind_inv hb
      obtain ⟨xs, rfl⟩ := ht d hd
      obtain ⟨ys, rfl⟩ := ht d' hd'
      rw [keyLt'_oneType]
      exact oneLt_tup ra rb (hal _ hd _ hd') (room hd) hq
    · rw [keyKind'_eq, List.mapM_toArray, map_eq_pure_bind]
      refine wpAny_bind (wpAny_bind (run_fsts F (wpAny_pure ?_)))
      rw [if_neg (by rw [some_no]; simp), if_neg h0]
      rw [oneTypeOnly'_eq, List.mapM_toArray, map_eq_pure_bind]
      refine wpAny_bind (wpAny_bind (wpAny_bind (kas_mapM (r := Value.type "tuple") _ (fun v hv Q' hq => ?_) (wpAny_pure ?_))))
      · obtain ⟨d, hd, as, r⟩ := e.left v hv
        obtain ⟨xs, rfl⟩ := ht d hd
        exact (looks_reads r).here hq
      · obtain ⟨v₁, rest, rfl⟩ : ∃ v₁ rest, vs = v₁ :: rest := by
          cases vs with
          | nil => simp at h2
          | cons v r => exact ⟨v, r, rfl⟩
        have hall : ((List.map (fun _ => Value.type "tuple") (v₁ :: rest)).toArray.all fun x => x == Value.type "tuple") = true := by
          simp only [List.all_toArray, List.all_map, List.all_eq_true]
          intro _ _
          rfl
        have h00 : (List.map (fun _ => Value.type "tuple") (v₁ :: rest)).toArray[0]? = some (Value.type "tuple") := by simp
        rw [h00]
        simp only [hall, if_true]
        exact wpAny_pure (wpAny_pure hq)
end
end

open PySem PySem.Spec PyProof.Rows L2
open PySem.W (alike alikeAll AllAlike EachIs SortsAt dataKind dataLe each_mem sortingHeap copyHeap sorting_copy_old sorted_vals sortVals sortVals_data sortVals_length each_map sort_maps alike_ints rowLt dataLt_ints dataLt dataLt_tuple dataLe_int)
/-- what can be sorted here: alike, none None, all tuples or none a tuple -/
structure SortOk (ds : List D) : Prop where
  pl : plDs 40 ds = true
  al : AllAlike (pys ds)
  kd : (∀ d, d ∈ pys ds → ∃ xs, d = .tuple xs) ∨ ∀ d, d ∈ pys ds → d ≠ .none ∧ ∀ xs, d ≠ .tuple xs
def sortD (ds : List D) : List D := ds.mergeSort (dataLe false py)
theorem pys_map : ∀ ds : List D, pys ds = ds.map py
  | [] => rfl
  | d :: ds => by rw [pys, List.map_cons, pys_map ds]
theorem SortOk.sorts {prog : Program} {w : World} {A : Around} {s : Shared} {vs : List Value} {ds : List D} (h : SortOk ds) (e : EachIs (fun v d => ∃ as, Reads s.heap v d as) vs (pys ds)) (hu : A.units + 41 < cLine) : SortsAt prog w A s (dataKind s.heap (pys ds)) vs := by
  have hd : ∀ d, d ∈ pys ds → A.units + d.depth < cLine := fun d hd => by
    rw [pys_map] at hd
    obtain ⟨x, hx, rfl⟩ := List.mem_map.mp hd
    have := (plD_ok x 40 (plDs_iff.mp h.pl x hx)).2
    omega
  rcases h.kd with k | k
  · exact sorts_tups e h.al k hd
  · exact SortsAt.data e h.al (.inr k) hd
/-- the values of the items, one by one -/
theorem each_rep {K : PySem.W.Frag} {Av : AS} {H : Hp} : ∀ {ds : List D} {xs : List V} {us : List Value}, Reps K Av H ds xs → Vals xs us → EachIs (fun u d => ∃ x, RelV x u ∧ Rep K Av H d x) us ds
  | [], _, _, h, r => by cases h; cases r; exact .nil
  | d :: ds, _, _, ⟨v, q, e, h1, h2⟩, r => by
    subst e
    cases r with
    | cons r1 r2 => exact .cons ⟨v, r1, h1⟩ (each_rep h2 r2)
theorem rep_each {K : PySem.W.Frag} {Av : AS} {H : Hp} : ∀ {ds : List D} {us : List Value}, EachIs (fun u d => ∃ x, RelV x u ∧ Rep K Av H d x) us ds → ∃ xs, Vals xs us ∧ Reps K Av H ds xs
  | _, _, .nil => ⟨[], .nil, rfl⟩
  | _, _, .cons ⟨x, r, h⟩ t => by
    obtain ⟨xs, r2, h2⟩ := rep_each t
    exact ⟨x :: xs, .cons r r2, x, xs, rfl, h, h2⟩
theorem each_reads {X : Cx} {pins : List (Addr × Obj)} {σ : L2.St} {H : Hp} {s : Shared} {Av : AS} (I : Inv X pins σ H s) {ds : List D} {us : List Value} (hp : plDs 40 ds = true) (e : EachIs (fun u d => ∃ x, RelV x u ∧ Rep X.K Av H d x) us ds) : EachIs (fun u d => ∃ as, Reads s.heap u (py d) as) us ds :=
  (each_mem e).mono fun u d ⟨⟨x, r, h⟩, hm⟩ => Dp.reads I (py d) x u (rep_dp d 40 x (plDs_iff.mp hp d hm) h) r

/-- sorted(xs) of a list -/
def rSortL (K : PySem.W.Frag) : List V → Hp → VK → Prop := fun vs H Q => ∃ (a : Addr) (xs : List V) (ds : List D) (Av : AS), vs = [V.ref a] ∧ SqL K H a xs ∧ Reps K Av H ds xs ∧ SortOk ds ∧
  ∀ (ys : List V) (p : Addr), Reps K Av H (sortD ds) ys → H p = none → Q (.ref p) (upd H p (.lst ys))
section
variable {X : Cx}
theorem cr_sortL (hu : X.A.units + 65 < cLine) : CallR X (.builtin "sorted") (rSortL X.K) := by
  intro pins s σ H vs us Q I r h
  obtain ⟨a, xs, ds, Av, rfl, hs, hr, ok, q⟩ := h
  obtain ⟨its, rv, hl, hz⟩ := I.list hs
  rw [Vals.ref1 r]
  have eR := each_rep hr rv
  have er := each_reads I ok.pl eR
  have hlen : its.length ≤ sizeLine := by rw [← rv.length]; exact hz
  have er' : EachIs (fun v b => ∃ as, Reads (sortingHeap (copyHeap s.heap its) (s.heap.objs.size + 1) its) v (py b) as) its ds := er.mono fun _ _ ⟨as, r⟩ => ⟨as, PyProof.Rows.Reads.keeps (fun _ _ => sorting_copy_old) r⟩
  have er2 : EachIs (fun v d => ∃ as, Reads (sortingHeap (copyHeap s.heap its) (s.heap.objs.size + 1) its) v d as) its (pys ds) := by
    rw [pys_map]
    exact each_map (R := fun v d => ∃ as, Reads (sortingHeap (copyHeap s.heap its) (s.heap.objs.size + 1) its) v d as) py er'
  refine sorted_vals hl.isList (ok.sorts (s := { s with heap := sortingHeap (copyHeap s.heap its) (s.heap.objs.size + 1) its }) er2 (by show X.A.units + 1 + 1 + 41 < cLine; omega)) hlen ?_
  have eo : EachIs (fun u d => ∃ x, RelV x u ∧ Rep X.K Av H d x) (sortVals (dataKind (sortingHeap (copyHeap s.heap its) (s.heap.objs.size + 1) its) (pys ds)) false its its) (sortD ds) := by
    rw [pys_map]
    exact sortVals_data false eR er' (by rw [← pys_map]; exact ok.al)
  obtain ⟨ys, r1, r2⟩ := rep_each eo
  obtain ⟨ep, he'⟩ := PyProof.Rows.sortedAll_at s.heap its (sortVals (dataKind (sortingHeap (copyHeap s.heap its) (s.heap.objs.size + 1) its) (pys ds)) false its its).toArray
  have hl2 : ys.length ≤ sizeLine := by rw [r1.length, sortVals_length false rfl]; exact hlen
  exact ⟨.ref _, upd H (s.heap.objs.size + 1) (.lst ys), I.laid (t' := s.toks) (fun _ _ => PyProof.Rows.sortedAll_old) (Nat.le_succ _) ⟨hl2, _, ep, r1, he'⟩, rfl, q _ _ r2 (I.hok.fresh (Nat.le_succ _))⟩
end

/-! ### the orders: ints, rows of ints -/
def tupI (ns : List Int) : D := .tup (ns.map .int)
def tupsOf : List D → Option (List (List Int))
  | [] => some []
  | .tup ds :: r => match intsOf ds, tupsOf r with
    | some ns, some ls => some (ns :: ls)
    | _, _ => none
  | _ :: _ => none
theorem tups_mapM : ∀ {ds : List D} {ls : List (List Int)}, tupsOf ds = some ls → ds = ls.map tupI
  | [], _, h => by cases h; rfl
  | d :: ds, ls, h => by
    cases d with
    | tup es =>
      rw [tupsOf] at h
      cases h1 : intsOf es with
      | none => rw [h1] at h; cases h
      | some ns =>
        cases h2 : tupsOf ds with
        | none => rw [h1, h2] at h; cases h
        | some l2 =>
          rw [h1, h2] at h
          cases h
          rw [List.map_cons, ← tups_mapM h2, tupI, ← ints_mapM h1]
    | _ => cases h
theorem ints_self : ∀ ns : List Int, intsOf (ns.map D.int) = some ns
  | [] => rfl
  | n :: ns => by
    show intsOf (D.int n :: ns.map D.int) = _
    rw [intsOf, ints_self ns]; rfl
theorem tups_self : ∀ ls : List (List Int), tupsOf (ls.map tupI) = some ls
  | [] => rfl
  | l :: ls => by
    show tupsOf (D.tup (l.map .int) :: ls.map tupI) = _
    rw [tupsOf, ints_self, tups_self ls]
def leI (a b : Int) : Bool := decide (a ≤ b)
def leR (a b : List Int) : Bool := decide (a ≤ b)
theorem pys_ints (ns : List Int) : pys (ns.map D.int) = ns.map PyData.int := by
  rw [pys_map, List.map_map]; rfl
theorem py_tupI (ns : List Int) : py (tupI ns) = .tuple (ns.map .int) := by
  rw [tupI, py, pys_ints]
theorem plDs_ints {n : Nat} (ns : List Int) : plDs n (ns.map D.int) = true := by
  rw [plDs_iff]
  intro d hd
  obtain ⟨x, _, rfl⟩ := List.mem_map.mp hd
  cases n <;> rfl
theorem plDs_tups {n : Nat} (ls : List (List Int)) : plDs (n + 1) (ls.map tupI) = true := by
  rw [plDs_iff]
  intro d hd
  obtain ⟨x, _, rfl⟩ := List.mem_map.mp hd
  exact plDs_ints x
theorem sortOk_ints (ns : List Int) : SortOk (ns.map D.int) where
  pl := plDs_ints ns
  al := by
    rw [pys_map, List.map_map]
    exact AllAlike.of fun a b => by simp [py, alike]
  kd := .inr fun d hd => by
    rw [pys_ints] at hd
    obtain ⟨x, _, rfl⟩ := List.mem_map.mp hd
    exact ⟨by simp, by simp⟩
theorem sortOk_tups (ls : List (List Int)) : SortOk (ls.map tupI) where
  pl := plDs_tups ls
  al := by
    rw [pys_map, List.map_map]
    refine AllAlike.of fun a b => ?_
    show alike (py (tupI a)) (py (tupI b)) = true
    rw [py_tupI, py_tupI]
    simpa [alike] using alike_ints a b
  kd := .inl fun d hd => by
    rw [pys_map, List.map_map] at hd
    obtain ⟨x, _, rfl⟩ := List.mem_map.mp hd
    exact ⟨_, py_tupI x⟩
theorem sortD_ints (ns : List Int) : sortD (ns.map D.int) = (ns.mergeSort leI).map D.int := by
  unfold sortD
  rw [← sort_maps (r := leI) D.int fun a _ b _ => ?_]
  have := congrFun (congrFun (dataLe_int (β := Int) id) a) b
  exact this.symm
theorem sortD_tups (ls : List (List Int)) : sortD (ls.map tupI) = (ls.mergeSort leR).map tupI := by
  unfold sortD
  rw [← sort_maps (r := leR) tupI fun a _ b _ => ?_]
  show _ = !dataLt (py (tupI b)) (py (tupI a))
  rw [py_tupI, py_tupI, dataLt_tuple]
  show _ = !rowLt (b.map .int) (a.map .int)
  rw [dataLt_ints]
  unfold leR
  by_cases h : b < a
  · have h' : ¬ a ≤ b := fun q => List.not_lt.mpr q h
    simp [h, h']
  · have h' : a ≤ b := List.not_lt.mp h
    simp [h, h']
def sortF : List D → Option D
  | [.lst ds] => match intsOf ds with
    | some ns => some (.lst ((ns.mergeSort leI).map D.int))
    | none => (tupsOf ds).map fun ls => .lst ((ls.mergeSort leR).map tupI)
  | _ => none
theorem c_sortL {K : PySem.W.Frag} : CalF K (rSortL K) sortF := ⟨fun {Av H ds d xs Q} av r e q => by
  match ds, e with
  | [.lst as], e =>
    obtain ⟨v, rfl, p, vs, rfl, np, hp, rr⟩ := r.inv1
    have e : (match intsOf as with
      | some ns => some (D.lst ((ns.mergeSort leI).map D.int))
      | none => (tupsOf as).map fun ls => D.lst ((ls.mergeSort leR).map tupI)) = some d := e
    cases h : intsOf as with
    | some ns =>
      rw [h] at e
      cases e
      have h := ints_mapM h
      subst h
      refine ⟨p, vs, _, Av, rfl, SqL.of hp, rr, sortOk_ints ns, fun ys t hr ht => ?_⟩
      rw [sortD_ints] at hr
      exact q t _ _ (same_new ht) ht ⟨rfl, _, upd_same, hr.samep (same_new ht) ht⟩
    | none =>
      rw [h] at e
      cases h2 : tupsOf as with
      | none => rw [h2] at e; cases e
      | some ls =>
        rw [h2] at e
        cases e
        have h2 := tups_mapM h2
        subst h2
        refine ⟨p, vs, _, Av, rfl, SqL.of hp, rr, sortOk_tups ls, fun ys t hr ht => ?_⟩
        rw [sortD_tups] at hr
        exact q t _ _ (same_new ht) ht ⟨rfl, _, upd_same, hr.samep (same_new ht) ht⟩⟩
end FX

set_option Elab.async false
set_option linter.all false
set_option maxRecDepth 100000
/-! FxK: sorted(dict), sorted(set(list)), slices, min, max, len of dicts -/
namespace FX
open PySem PySem.Spec PyProof.Rows L2
open PySem.W (alike alikeAll AllAlike EachIs SortsAt dataKind dataLe each_mem sortingHeap copyHeap sorting_copy_old sorted_vals sortVals sortVals_data sortVals_length each_map sort_maps alike_ints rowLt dataLt_ints dataLt dataLt_tuple dataLe_int)

/-! ### sorted of anything that is collected -/
section
variable {X : Cx}
theorem sorted_gen {pins : List (Addr × Obj)} {σ : L2.St} {H : Hp} {s : Shared} {Av : AS} {u : Value} {Q : VK} (hu : X.A.units + 65 < cLine)
    (hc : ∀ R : List Value → Shared → Prop, (∀ (s1 : Shared) (us : List Value) (xs : List V) (ds : List D), Inv X pins σ H s1 → Vals xs us → Reps X.K Av H ds xs → SortOk ds → ds.length ≤ sizeLine →
      (∀ ys p, Reps X.K Av H (sortD ds) ys → H p = none → Q (.ref p) (upd H p (.lst ys))) → R us s1) → wpAny (model X.prog X.w) X.A.in1 (collect u) R X.xe s) :
    wpAny (model X.prog X.w) X.A (call (.builtin "sorted") [u]) (EP X pins σ Q) X.xe s := by
  refine Calls.call_function_entry PyProof.Rows.kind_sorted PyProof.Rows.plain_sorted PyProof.Rows.entry_sorted (PyProof.Rows.args_sorted1 _) ?_
  unfold Builtin.«sorted»
  refine wpAny_bind (m := checkCount "sorted" 1 1 _) (wpAny_pure ?_)
  refine wpAny_bind (hc _ fun s1 us xs ds I1 rv hr ok hz q => ?_)
  obtain ⟨h', gs, dr, tk, os⟩ := s1
  have hlen : us.length ≤ sizeLine := by rw [← rv.length, hr.length]; exact hz
  refine wpAny_bind (wpAny_newList ?_ hlen)
  have hoL : (h'.push (seqObj "list" us.toArray 0)).get? h'.objs.size = some (seqObj "list" us.toArray 0) := Heap.get?_push_size _ rfl
  have eR := each_rep hr rv
  have er := each_reads I1 ok.pl eR
  have old : ∀ b o, h'.get? b = some o → (sortingHeap (h'.push (seqObj "list" us.toArray 0)) h'.objs.size us).get? b = some o := fun b o e =>
    PySem.W.sortingHeap_old (Nat.ne_of_lt (Heap.lt_size e)) (Heap.get?_push_of_some _ e)
  have er' : EachIs (fun v b => ∃ as, Reads (sortingHeap (h'.push (seqObj "list" us.toArray 0)) h'.objs.size us) v (py b) as) us ds := er.mono fun _ _ ⟨as, r⟩ => ⟨as, PyProof.Rows.Reads.keeps old r⟩
  have er2 : EachIs (fun v d => ∃ as, Reads (sortingHeap (h'.push (seqObj "list" us.toArray 0)) h'.objs.size us) v d as) us (pys ds) := by
    rw [pys_map]
    exact each_map (R := fun v d => ∃ as, Reads (sortingHeap (h'.push (seqObj "list" us.toArray 0)) h'.objs.size us) v d as) py er'
  show wpAny _ _ _ _ _ { heap := h'.push (seqObj "list" us.toArray 0), gens := gs, drawn := dr, toks := tk, os := os }
  refine wpAny_bind (wpAny_holding (wpAny_call_entry PyProof.Rows.slot_list_sort ⟨_, hoL, rfl⟩ PyProof.Rows.entry_list_sort
    (PySem.W.list_sort_vals (s := { heap := h'.push (seqObj "list" us.toArray 0), gens := gs, drawn := dr, toks := tk, os := os }) hoL (ok.sorts (s := { heap := sortingHeap (h'.push (seqObj "list" us.toArray 0)) h'.objs.size us, gens := gs, drawn := dr, toks := tk, os := os }) er2 (by show X.A.units + 1 + 1 + 41 < cLine; omega)) hlen ⟨_, rfl, ?_⟩) (PyProof.Rows.args_list_sort _)))
  have eo : EachIs (fun u d => ∃ x, RelV x u ∧ Rep X.K Av H d x) (sortVals (dataKind (sortingHeap (h'.push (seqObj "list" us.toArray 0)) h'.objs.size us) (pys ds)) false us us) (sortD ds) := by
    rw [pys_map]
    exact sortVals_data false eR er' (by rw [← pys_map]; exact ok.al)
  obtain ⟨ys, r1, r2⟩ := rep_each eo
  obtain ⟨ep, he'⟩ := PyProof.Rows.sortedHeap_at (vs := us) (out := (sortVals (dataKind (sortingHeap (h'.push (seqObj "list" us.toArray 0)) h'.objs.size us) (pys ds)) false us us).toArray) hoL
  have hl2 : ys.length ≤ sizeLine := by rw [r1.length, sortVals_length false rfl]; exact hlen
  refine wpAny_pure ⟨_, rfl, .ref h'.objs.size, upd H h'.objs.size (.lst ys), I1.laid (t' := tk) (fun b u e => ?_) (Nat.le_refl _) (show ObjOk X.prog X.w _ _ _ (.lst ys) from ⟨hl2, _, ep, r1, he'⟩), rfl, q ys _ r2 (I1.hok.fresh (Nat.le_refl _))⟩
  have hb : b < h'.objs.size := Heap.lt_size e
  rw [PyProof.Rows.sortedHeap_old (Nat.ne_of_lt hb) (by rw [size_push']; exact Nat.lt_succ_of_lt hb)]
  exact Heap.get?_push_of_some _ e

/-- the keys' values of a dict with tuple keys -/
theorem kt_vals {K : PySem.W.Frag} {Av : AS} {H : Hp} (av : AvT Av H) : ∀ {kvs : List (List Int × D)} {ws : List (List Key × V)} {ks : List (List Key × Addr × Value)}, RepT K Av H kvs ws → KT H ws ks →
    Vals (ks.map fun x => V.ref x.2.1) (ks.map fun x => Value.ref x.2.1) ∧ Reps K Av H (kvs.map fun p => tupI p.1) (ks.map fun x => V.ref x.2.1)
  | [], _, _, h, r => by cases h; cases r; exact ⟨.nil, rfl⟩
  | (k, d) :: kvs, _, _, ⟨v, q, e, h1, h2⟩, r => by
    subst e
    cases r with
    | @cons a b as bs r1 r2 =>
      obtain ⟨i1, i2⟩ := kt_vals av h2 r2
      have hk : H b.2.1 = some (.tup ((kT k).map kV)) := r1.2.1
      have e2 : (kT k).map kV = k.map V.int := by unfold kT; rw [List.map_map]; rfl
      rw [e2] at hk
      exact ⟨.cons rfl i1, V.ref b.2.1, _, rfl, ⟨b.2.1, _, rfl, av.tup hk, hk, Reps.ints.mpr rfl⟩, i2⟩
/-- sorted(d), the keys tuples of ints -/
def rSortDT (K : PySem.W.Frag) : List V → Hp → VK → Prop := fun vs H Q => ∃ (a : Addr) (ws : List (List Key × V)) (kvs : List (List Int × D)) (Av : AS), vs = [V.ref a] ∧ Rd H a (.dT ws) ∧ RepT K Av H kvs ws ∧ AvT Av H ∧
  ∀ (ys : List V) (p : Addr), Reps K Av H (((kvs.map (·.1)).mergeSort leR).map tupI) ys → H p = none → Q (.ref p) (upd H p (.lst ys))
theorem cr_sortDT (hc : X.calm = true) (hu : X.A.units + 65 < cLine) : CallR X (.builtin "sorted") (rSortDT X.K) := by
  intro pins s σ H xs us Q I r h
  obtain ⟨d, ws, kvs, Av, rfl, hd, hr, av, q⟩ := h
  obtain ⟨u, rfl, rx⟩ := r.one
  cases rx
  obtain ⟨z, hs, ks, pr, o, es, ep, ho, hx, hdt, he, hn⟩ := (show ObjOk X.prog X.w H s.heap d (.dT ws) from hd.ok I.hok)
  have l1 : es.size = ks.length := size_of_entries he
  have l2 : ws.length = ks.length := Paired.length pr
  refine sorted_gen (H := H) (Av := Av) hu fun R hR => ?_
  refine PySem.W.kdu_collect (A := X.A.in1) (kdl_raw hs hx hdt) (I.ok.hd hc) ho (by omega) fun h' tk acc' kp it => ?_
  have ea : acc'.toList = ks.map fun x => Value.ref x.2.1 := by
    have hl : acc'.toList.length = ks.length := by rw [Array.length_toList, it.1]; exact l1
    apply List.ext_getElem?
    intro j
    rw [List.getElem?_map]
    cases hj : acc'.toList[j]? with
    | none =>
      have h1 := List.getElem?_eq_none_iff.mp hj
      rw [List.getElem?_eq_none (by omega)]
      all_goals rfl
    | some v =>
      obtain ⟨en, hen, hv⟩ := it.2 j v (by rw [← Array.getElem?_toList]; exact hj)
      have qe := entry_at he j
      rw [hen] at qe
      cases hb : ks[j]? with
      | none =>
        rw [hb] at qe
        exact nomatch (show some en = none from qe)
      | some b =>
        rw [hb] at qe
        have e2 : en = entryOfKey (tupleKind (mixKind X.prog X.w)) b := Option.some.inj qe
        rw [hv, e2]
        all_goals rfl
  obtain ⟨v1, v2⟩ := kt_vals av hr pr
  rw [ea]
  have e3 : kvs.map (fun p => tupI p.1) = (kvs.map (·.1)).map tupI := by rw [List.map_map]; rfl
  rw [e3] at v2
  refine hR _ _ _ _ (I.kept kp) v1 v2 (sortOk_tups _) ?_ fun ys p h1 h2 => q ys p (by rw [sortD_tups] at h1; exact h1) h2
  rw [List.length_map, List.length_map]
  have := hr.length
  omega
end
def sortDF : List D → Option D
  | [.dT kvs] => some (.lst (((kvs.map (·.1)).mergeSort leR).map tupI))
  | _ => none
def sortIF : List D → Option D
  | [.dI kvs] => if kvs.length < 64 then some (.lst (((kvs.map (·.1)).mergeSort leI).map D.int)) else none
  | _ => none
theorem c_sortDT {K : PySem.W.Frag} : CalF K (rSortDT K) sortDF := ⟨fun {Av H ds d xs Q} av r e q => by
  match ds, e with
  | [.dT kvs], e =>
    cases e
    obtain ⟨v, rfl, p, ws, rfl, np, hp, rr⟩ := r.inv1
    exact ⟨p, ws, kvs, Av, rfl, hp, rr, av, fun ys t hr ht => q t _ _ (same_new ht) ht ⟨rfl, _, upd_same, hr.samep (same_new ht) ht⟩⟩⟩
theorem leI_total : PySem.W.TotalLe leI where
  trans a b c h1 h2 := decide_eq_true (Int.le_trans (of_decide_eq_true h1) (of_decide_eq_true h2))
  total a b := (Int.le_total a b).elim (fun h => .inl (decide_eq_true h)) fun h => .inr (decide_eq_true h)
theorem sortI_unique {ns ms : List Int} (hp : ms.Perm ns) (hs : ms.Pairwise (· ≤ ·)) : ms = ns.mergeSort leI := by
  refine List.Perm.eq_of_pairwise (le := fun a b => a ≤ b) (fun a b _ _ => Int.le_antisymm) hs ?_ (hp.trans (List.mergeSort_perm _ _).symm)
  exact (PySem.W.sort_pairwise leI_total ns).imp fun h => of_decide_eq_true h
theorem repI_keys {K : PySem.W.Frag} {Av : AS} {H : Hp} : ∀ {kvs : List (Int × D)} {ws : List (Key × V)}, RepI K Av H kvs ws → ws.map (·.1) = (kvs.map (·.1)).map Sum.inl
  | [], _, h => by cases h; rfl
  | (k, d) :: kvs, _, ⟨v, q, e, h1, h2⟩ => by subst e; simp [repI_keys h2, kI]
theorem c_sortI {K : PySem.W.Frag} : CalF K (fun xs H Q => ∃ (a : Addr) (kvs : List (Key × V)) (ks : List Int), xs = [.ref a] ∧ Rd H a (.dK kvs) ∧ kvs.map (·.1) = ks.map Sum.inl ∧ ks.length < 64 ∧
    ∀ (ys : List Int) (p : Addr), ys.Perm ks → ys.Pairwise (· ≤ ·) → H p = none → Q (.ref p) (upd H p (.lst (ys.map V.int)))) sortIF := ⟨fun {Av H ds d xs Q} av r e q => by
  match ds, e with
  | [.dI kvs], e =>
    obtain ⟨hl, rfl⟩ := ite_some e
    obtain ⟨v, rfl, p, ws, rfl, np, hp, rr⟩ := r.inv1
    refine ⟨p, ws, kvs.map (·.1), rfl, hp, repI_keys rr, by rw [List.length_map]; exact hl, fun ys t h1 h2 ht => q t _ _ (same_new ht) ht ⟨rfl, _, upd_same, ?_⟩⟩
    rw [← sortI_unique h1 h2]
    exact Reps.ints.mpr rfl⟩

/-! ### sorted(set(xs)), xs a list of tuples of ints -/
theorem leR_total : PySem.W.TotalLe leR where
  trans a b c h1 h2 := decide_eq_true (List.le_trans (of_decide_eq_true h1) (of_decide_eq_true h2))
  total a b := (List.le_total a b).elim (fun h => .inl (decide_eq_true h)) fun h => .inr (decide_eq_true h)
theorem sortR_unique {ns ms : List (List Int)} (hp : ms.Perm ns) (hs : ms.Pairwise (· ≤ ·)) : ms = ns.mergeSort leR := by
  refine List.Perm.eq_of_pairwise (le := fun a b => a ≤ b) (fun a b _ _ => List.le_antisymm) hs ?_ (hp.trans (List.mergeSort_perm _ _).symm)
  exact (PySem.W.sort_pairwise leR_total ns).imp fun h => of_decide_eq_true h
theorem sortR_sorted (ns : List (List Int)) : (ns.mergeSort leR).Pairwise (· ≤ ·) := (PySem.W.sort_pairwise leR_total ns).imp fun h => of_decide_eq_true h
theorem sortI_sorted (ns : List Int) : (ns.mergeSort leI).Pairwise (· ≤ ·) := (PySem.W.sort_pairwise leI_total ns).imp fun h => of_decide_eq_true h
theorem sortR_perm {ns ms : List (List Int)} (hp : ms.Perm ns) : ms.mergeSort leR = ns.mergeSort leR := sortR_unique ((List.mergeSort_perm _ _).trans hp) (sortR_sorted _)
/-- sorted(set) -/
def rSortST (K : PySem.W.Frag) (P : Program) (w : World) : List V → Hp → VK → Prop := fun vs H Q => ∃ (a : Addr) (L : List (Addr × List Int)) (Av : AS), vs = [V.ref a] ∧ H a = some (SetTO P w a L) ∧ (∀ p ∈ L, SqT K H p.1 (p.2.map V.int)) ∧ (∀ p ∈ L, Rep K Av H (tupI p.2) (.ref p.1)) ∧
  ((L.map (·.2)).Nodup → ∀ (ys : List V) (p : Addr), Reps K Av H (((L.map (·.2)).mergeSort leR).map tupI) ys → H p = none → Q (.ref p) (upd H p (.lst ys)))
section
variable {X : Cx}
theorem cr_sortST (hc : X.calm = true) (hu : X.A.units + 65 < cLine) : CallR X (.builtin "sorted") (rSortST X.K X.prog X.w) := by
  intro pins s σ H vs us Q I r h
  obtain ⟨a, L, Av, rfl, ha, hk, hrp, q⟩ := h
  have R0 : SetT0 X.prog X.w s.heap a L := (I.hok a _ ha).1
  obtain ⟨es, ep, t, R⟩ := R0.full fun p hp => I.isT (hk p hp)
  rw [Vals.ref1 r]
  obtain ⟨o, ho, hex, hd⟩ := R.ob
  have hsz := R.size
  have hfew := R.few
  refine sorted_gen (H := H) (Av := Av) hu fun R' hR => ?_
  refine collect_set (A := X.A.in1) (I.ok.hd hc) ⟨o, ho, hex.1, hd⟩ R.fits (by unfold scanBound; omega) R.tab.ris R.led fun s1 vs k1 hz g1 o1 pm => ?_
  have hes : es.toList.map (·.2) = L.map fun q => Value.ref q.1 := by
    rw [R.rows]
    unfold rowsOf
    rw [List.map_map] <;> rfl
  rw [hes] at pm
  have ord : ∀ vs : List Value, (∀ v ∈ vs, ∃ q ∈ L, v = Value.ref q.1) → ∃ L1 : List (Addr × List Int), vs = L1.map (fun q => Value.ref q.1) ∧ ∀ q ∈ L1, q ∈ L := by
    intro vs
    induction vs with
    | nil => intro _; exact ⟨[], rfl, fun q hq => (by cases hq)⟩
    | cons v vs ih =>
      intro hv
      obtain ⟨q, hq, e⟩ := hv v List.mem_cons_self
      obtain ⟨L1, e1, hs⟩ := ih fun u hu => hv u (List.mem_cons_of_mem _ hu)
      refine ⟨q :: L1, by rw [List.map_cons, e, e1], fun r hr => ?_⟩
      rcases List.mem_cons.mp hr with z | z
      · rw [z]; exact hq
      · exact hs r z
  have one : ∀ q ∈ L, ∀ r ∈ L, q.1 = r.1 → q = r := fun q hq r hr e => by
    have a1 := R.tup q hq
    have a2 := R.tup r hr
    rw [e] at a1
    have e2 : q.2 = r.2 := a1.inj a2
    exact Prod.ext e e2
  have perm_of : ∀ L1 : List (Addr × List Int), (∀ q ∈ L1, q ∈ L) → (L1.map (fun q => Value.ref q.1)).Perm (L.map fun q => Value.ref q.1) → L1.Perm L := by
    intro L1 hs pm1
    have nL : L.Nodup := nodup_of_map R.nd
    have nref : (L.map fun q => Value.ref q.1).Nodup := by
      refine List.pairwise_map.mpr (List.Pairwise.imp_of_mem (fun {q r} hq hr hne e => ?_) nL)
      injection e with e
      exact hne (one q hq r hr e)
    have n1 : L1.Nodup := nodup_of_map (pm1.nodup_iff.mpr nref)
    refine (List.perm_ext_iff_of_nodup n1 nL).mpr fun q => ⟨hs q, fun hq => ?_⟩
    have hm : Value.ref q.1 ∈ L1.map (fun q => Value.ref q.1) := pm1.mem_iff.mpr (List.mem_map.mpr ⟨q, hq, rfl⟩)
    obtain ⟨r, hr, e⟩ := List.mem_map.mp hm
    injection e with e
    rw [← one r (hs r hr) q hq e]
    exact hr
  obtain ⟨L1, e1, hs1⟩ := ord vs fun v hv => by
    obtain ⟨q, hq, e⟩ := List.mem_map.mp (pm.mem_iff.mp hv)
    exact ⟨q, hq, e.symm⟩
  have p1 : L1.Perm L := perm_of L1 hs1 (by rw [← e1]; exact pm)
  have hreps : ∀ M : List (Addr × List Int), (∀ q ∈ M, q ∈ L) → Reps X.K Av H ((M.map (·.2)).map tupI) (M.map fun q => V.ref q.1) := by
    intro M
    induction M with
    | nil => intro _; rfl
    | cons m M ih => intro h; exact ⟨_, _, rfl, hrp m (h m List.mem_cons_self), ih fun q hq => h q (List.mem_cons_of_mem _ hq)⟩
  rw [e1]
  refine hR s1 _ _ _ (I.call' (ch := []) o1 (Un.kept k1) (I.hok.kept k1) (by rw [g1]; exact I.bare) fun _ z => nomatch z) (vals_of_refs L1) (hreps L1 hs1) (sortOk_tups _) ?_ fun ys p h1 h2 => q R.nd ys p ?_ h2
  · rw [List.length_map, List.length_map, p1.length_eq, sizeLine_eq]
    omega
  · rw [sortD_tups, sortR_perm (p1.map _)] at h1
    exact h1
end
theorem sqt_same {K : PySem.W.Frag} {H H' : Hp} {a : Addr} {xs : List V} (e : Same H H') (h : SqT K H a xs) : SqT K H' a xs :=
  h.elim (fun h => .inl (h.elim (fun h => .inl (e _ _ h)) fun ⟨o, h⟩ => .inr ⟨o, e _ _ h⟩)) fun h => .inr h
/-- sorted(set(xs)): in order, each once -/
def dSortSet (t : DE) : DE := fun env k x => t env (fun d e => ∃ ls : List (List Int), d = .lst (ls.map tupI) ∧ ls.length < 64 ∧ ∀ ms : List (List Int), ms.Pairwise (· ≤ ·) → ms.Nodup → (∀ z, z ∈ ms ↔ z ∈ ls) → k (.lst (ms.map tupI)) e) x
theorem rep_tups {K : PySem.W.Frag} {Av : AS} {H : Hp} : ∀ {ls : List (List Int)} {vs : List V}, Reps K Av H (ls.map tupI) vs → ∃ ks : List (Addr × List Int), vs = ks.map (fun p => V.ref p.1) ∧ ks.map (·.2) = ls ∧ ∀ p ∈ ks, SqT K H p.1 (p.2.map V.int) ∧ Rep K Av H (tupI p.2) (.ref p.1)
  | [], _, h => by cases h; exact ⟨[], rfl, rfl, fun p hp => nomatch hp⟩
  | l :: ls, _, ⟨v, q, e, h1, h2⟩ => by
    subst e
    obtain ⟨ks, e1, e2, h3⟩ := rep_tups h2
    obtain ⟨a, us, rfl, na, ha, hr⟩ := id h1
    have := Reps.ints.mp hr
    subst this
    refine ⟨(a, l) :: ks, by rw [e1]; rfl, by rw [List.map_cons, e2], fun p hp => ?_⟩
    rcases List.mem_cons.mp hp with rfl | hp
    · exact ⟨SqT.of ha, h1⟩
    · exact h3 p hp
section
variable {X : Cx} {W : HW} {e : Expr} {p q pos : Pos} {t : DE}
theorem de_sortSet (hc : X.calm = true) (hu : X.A.units + 65 < cLine) (hg : Gl X "sorted") (hm : X.mg "sorted" = none) (hg2 : Gl X "set") (hm2 : X.mg "set" = none) (h : PE X e (up X.K W t)) {p2 : Pos}
    (na : starEach [.Call (.Name "set" q) [e] [] p] X.env = (false, eval (.Call (.Name "set" q) [e] [] p) X.env) :: starEach [] X.env := by rfl) (nb : starEach [e] X.env = (false, eval e X.env) :: starEach [] X.env := by rfl) :
    PE X (.Call (.Name "sorted" p2) [.Call (.Name "set" q) [e] [] p] [] pos) (upF X.K W (dSortSet t)) := by
  refine pe_conv (pe_callB (cr_sortST hc hu) hg hm PyProof.Rows.boot_sorted (pa_cons (pe_callTy (cr_setOfT hc (by omega)) hg2 hm2 PyProof.Rows.boot_set (pa_cons h pa_nil nb) (by decide) (by decide) nb rfl) pa_nil na) (by decide) (by decide) na rfl) fun σ H Q h => ?_
  obtain ⟨C, M, env, k, x, R, h, hk, hx⟩ := h
  refine ⟨C, M, env, _, x, R, h, fun a e1 v H1 M1 h1 R1 k1 g1 r1 => ?_, hx⟩
  obtain ⟨ls, rfl, hl, kd⟩ := h1
  obtain ⟨a, vs, rfl, na, ha, hr⟩ := r1
  obtain ⟨ks, rfl, e2, h3⟩ := rep_tups hr
  have hav : ∀ b, (fun a => C.G a ∨ M1 a) b → Mut (H1 b) := R1.avt
  refine ⟨a, ks, rfl, SqL.of ha, fun p hp => (h3 p hp).1, by rw [← e2, List.length_map] at hl; exact hl, fun b L hb hsub hall => ?_⟩
  have sm : Same H1 (upd H1 b (SetTO X.prog X.w b L)) := same_new hb
  refine ⟨b, L, fun a => (C.G a ∨ M1 a) ∨ a = b, rfl, upd_same, fun p hp => sqt_same sm (h3 p (hsub p hp)).1, fun p hp => ?_, fun nd ys t hy ht => ?_⟩
  · exact Rep.mono (fun c o e _ => sm c o e) (fun c hn z => z.elim id fun z => absurd hb (z ▸ hn)) _ _ (h3 p (hsub p hp)).2
  · have ht1 : H1 t = none := by
      cases e : H1 t with
      | none => rfl
      | some o => rw [sm t o e] at ht; cases ht
    have sm2 : Same H1 (upd (upd H1 b (SetTO X.prog X.w b L)) t (.lst ys)) := fun c o e => same_new ht c o (sm c o e)
    refine (R1.finF k1 g1 (kd ((L.map (·.2)).mergeSort leR) (sortR_sorted _) ?_ fun z => ?_) hk) t _ _ sm2 ht1 ⟨rfl, ys, upd_same, ?_⟩
    · exact (List.mergeSort_perm _ _).nodup_iff.mpr nd
    · rw [List.mem_mergeSort, ← e2]
      refine ⟨fun hz => ?_, fun hz => ?_⟩
      · obtain ⟨p, hp, rfl⟩ := List.mem_map.mp hz
        exact List.mem_map.mpr ⟨p, hsub p hp, rfl⟩
      · obtain ⟨p, hp, rfl⟩ := List.mem_map.mp hz
        exact hall p hp
    · refine Reps.mono (fun c o e _ => same_new ht c o e) (fun c hn z => ?_) _ _ hy
      rcases z with z | z
      · exact .inl z
      · exact absurd ht (z ▸ hn)
end

/-! ### slices -/
def cutD (ds : List D) (lo hi : Option Int) : List D := (ds.drop (HT.sIx ds.length 0 lo)).take (HT.sIx ds.length ds.length hi - HT.sIx ds.length 0 lo)
abbrev DP := Env → (Option Int → Env → Prop) → XW → Prop
def dpN : DP := fun env k _ => k none env
def dpS (t : DE) : DP := fun env k x => t env (fun d e => ∃ i, d = .int i ∧ k (some i) e) x
def upP (K : PySem.W.Frag) (W : HW) (t : DP) : TO := fun σ H Q => ∃ (C : Ctx) (M : AS) (env : Env) (k : Option Int → Env → Prop) (x : XW), Rel K C M env σ H ∧ t env k x ∧
  (∀ d env' H' M', k d env' → Rel K C M' env' σ H' → Keep M H H' → Grow M H M' → Q d H') ∧
  (∀ e env' H' M', x e env' → Rel K C M' env' σ H' → Keep M H H' → Grow M H M' → W e H')
/-- of a tuple -/
def dSlT (t : DE) (tl th : DP) : DE := fun env k x => t env (fun d e1 => tl e1 (fun lo e2 => th e2 (fun hi e3 => ∃ ds, d = .tup ds ∧ k (.tup (cutD ds lo hi)) e3) x) x) x
/-- of a list -/
def dSlL (t : DE) (tl th : DP) : DE := fun env k x => t env (fun d e1 => tl e1 (fun lo e2 => th e2 (fun hi e3 => ∃ ds, d = .lst ds ∧ k (.lst (cutD ds lo hi)) e3) x) x) x
theorem po_conv {X : Cx} {o : Option Expr} {t t' : TO} (h : PO X o t) (c : ∀ σ H Q, t' σ H Q → t σ H Q) : PO X o t' := ⟨fun pins s σ H Q I q => h.run pins s σ H Q I (c σ H Q q)⟩
theorem cut_reps {K : PySem.W.Frag} {Av : AS} {H : Hp} {ds : List D} {vs : List V} (h : Reps K Av H ds vs) (lo hi : Option Int) : Reps K Av H (cutD ds lo hi) (cutV vs lo hi) := by
  unfold cutD cutV
  rw [h.length]
  exact (h.drop _).take _
section
variable {X : Cx} {W : HW} {e lo hi : Expr} {elo ehi : Option Expr} {p q pos p2 : Pos} {t u : DE} {tl th : DP}
theorem dp_none : PO X none (upP X.K W dpN) := po_conv po_none fun σ H Q h => by
  obtain ⟨C, M, env, k, x, R, h, hk, hx⟩ := h
  exact hk none env H M h R (.refl _ _) (.refl _ _)
theorem dp_some (h : PE X e (up X.K W t)) : PO X (some e) (upP X.K W (dpS t)) := po_conv (po_some h) fun σ H Q h => by
  obtain ⟨C, M, env, k, x, R, h, hk, hx⟩ := h
  refine ⟨C, M, env, _, x, R, h, fun a e1 v H1 M1 h1 R1 k1 g1 r1 => ?_, hx⟩
  obtain ⟨i, rfl, kd⟩ := h1
  exact ⟨i, r1, hk _ _ _ _ kd R1 k1 g1⟩
theorem de_slT (he : PE X e (up X.K W t)) (hl : PO X elo (upP X.K W tl)) (hh : PO X ehi (upP X.K W th)) : PE X (.Subscript e (.Slice elo ehi none p2) pos) (up X.K W (dSlT t tl th)) :=
  pe_conv (pe_slice sl_tupA he hl hh) fun σ H Q h => by
    obtain ⟨C, M, env, k, x, R, h, hk, hx⟩ := h
    refine ⟨C, M, env, _, x, R, h, fun a e1 v H1 M1 h1 R1 k1 g1 r1 => ?_, hx⟩
    have hx1 : ∀ e env' H' M', x e env' → Rel X.K C M' env' σ H' → Keep M1 H1 H' → Grow M1 H1 M' → W e H' := fun e env' H' M' xe R' k' g' => hx e env' H' M' xe R' (k1.trans g1 k') (Grow.trans k1 g1 g')
    refine ⟨C, M1, e1, _, x, R1, h1, fun l e2 H2 M2 h2 R2 k2 g2 => ?_, hx1⟩
    have k12 := k1.trans g1 k2
    have g12 := Grow.trans k1 g1 g2
    refine ⟨C, M2, e2, _, x, R2, h2, fun u e3 H3 M3 h3 R3 k3 g3 => ?_, fun e env' H' M' xe R' k' g' => hx e env' H' M' xe R' (k12.trans g12 k') (Grow.trans k12 g12 g')⟩
    have k13 := k12.trans g12 k3
    have g13 := Grow.trans k12 g12 g3
    obtain ⟨ds, rfl, kd⟩ := h3
    have r3 := k3.rep g3 (k2.rep g2 r1)
    obtain ⟨b, vs, rfl, nb, hb, hr⟩ := id r3
    have fin := R3.fin k13 g13 kd hk
    refine ⟨b, vs, rfl, SqT.of hb, fun hw => ?_, fun hw t ht => ?_⟩
    · refine fin _ H3 (Same.refl _) ?_
      have e : cutD ds l u = ds := by
        unfold cutD
        rw [hr.length] at hw
        rw [hw.1, hw.2]
        simp
      rw [e]
      exact r3
    · exact fin _ _ (same_new ht) ⟨t, _, rfl, R3.avt.new ht, upd_same, (cut_reps hr l u).same (same_new ht)⟩
theorem de_slL (he : PE X e (up X.K W t)) (hl : PO X elo (upP X.K W tl)) (hh : PO X ehi (upP X.K W th)) : PE X (.Subscript e (.Slice elo ehi none p2) pos) (upF X.K W (dSlL t tl th)) :=
  pe_conv (pe_slice sl_list he hl hh) fun σ H Q h => by
    obtain ⟨C, M, env, k, x, R, h, hk, hx⟩ := h
    refine ⟨C, M, env, _, x, R, h, fun a e1 v H1 M1 h1 R1 k1 g1 r1 => ?_, hx⟩
    have hx1 : ∀ e env' H' M', x e env' → Rel X.K C M' env' σ H' → Keep M1 H1 H' → Grow M1 H1 M' → W e H' := fun e env' H' M' xe R' k' g' => hx e env' H' M' xe R' (k1.trans g1 k') (Grow.trans k1 g1 g')
    refine ⟨C, M1, e1, _, x, R1, h1, fun l e2 H2 M2 h2 R2 k2 g2 => ?_, hx1⟩
    have k12 := k1.trans g1 k2
    have g12 := Grow.trans k1 g1 g2
    refine ⟨C, M2, e2, _, x, R2, h2, fun u e3 H3 M3 h3 R3 k3 g3 => ?_, fun e env' H' M' xe R' k' g' => hx e env' H' M' xe R' (k12.trans g12 k') (Grow.trans k12 g12 g')⟩
    have k13 := k12.trans g12 k3
    have g13 := Grow.trans k12 g12 g3
    obtain ⟨ds, rfl, kd⟩ := h3
    have r3 := k3.rep g3 (k2.rep g2 r1)
    obtain ⟨b, vs, rfl, nb, hb, hr⟩ := id r3
    exact ⟨b, vs, rfl, SqL.of hb, fun t ht => R3.finF k13 g13 kd hk t _ _ (same_new ht) ht ⟨rfl, _, upd_same, (cut_reps hr l u).samep (same_new ht) ht⟩⟩
end

/-! ### max of a list of ints, min of a list of pairs (int, tuple of ints) -/
def maxLF : List D → Option D
  | [.lst as] => match intsOf as with
    | some (n :: ns) => some (.int (ns.foldl max n))
    | _ => none
  | _ => none
theorem foldl_max : ∀ (ns : List Int) (n : Int), (ns.foldl max n = n ∨ ns.foldl max n ∈ ns) ∧ n ≤ ns.foldl max n ∧ ∀ y ∈ ns, y ≤ ns.foldl max n
  | [], n => ⟨.inl rfl, Int.le_refl _, fun y hy => nomatch hy⟩
  | m :: ns, n => by
    obtain ⟨h1, h2, h3⟩ := foldl_max ns (max n m)
    rw [List.foldl_cons]
    refine ⟨?_, by omega, fun y hy => ?_⟩
    · rcases h1 with h1 | h1
      · rw [h1]
        rcases Int.le_total n m with h | h
        · right; rw [Int.max_eq_right h]; simp
        · left; rw [Int.max_eq_left h]
      · right; exact List.mem_cons_of_mem _ h1
    · rcases List.mem_cons.mp hy with rfl | hy
      · omega
      · exact h3 y hy
theorem c_max {K : PySem.W.Frag} : Cal K (rMax K) maxLF := ⟨fun {Av H ds d xs Q} av r e q => by
  match ds, e with
  | [.lst as], e =>
    obtain ⟨v, rfl, p, vs, rfl, np, hp, rr⟩ := r.inv1
    have e : (match intsOf as with
      | some (n :: ns) => some (D.int (ns.foldl max n))
      | _ => none) = some d := e
    cases h : intsOf as with
    | none => rw [h] at e; cases e
    | some bs =>
      rw [h] at e
      cases bs with
      | nil => cases e
      | cons n ns =>
        cases e
        have h := ints_mapM h
        subst h
        have := Reps.ints.mp rr
        subst this
        obtain ⟨m1, m2, m3⟩ := foldl_max ns n
        refine ⟨p, n :: ns, rfl, SqL.of hp, by simp, fun m h1 h2 => q _ H (Same.refl H) ?_⟩
        have e : m = ns.foldl max n := by
          have a1 : m ≤ ns.foldl max n := by
            rcases List.mem_cons.mp h1 with rfl | h1
            · exact m2
            · exact m3 m h1
          have a2 : ns.foldl max n ≤ m := by
            rcases m1 with m1 | m1
            · rw [m1]; exact h2 _ (List.mem_cons_self ..)
            · exact h2 _ (List.mem_cons_of_mem _ m1)
          omega
        rw [e]
        rfl⟩
/-- a number and a tuple of numbers -/
def prI (p : Int × List Int) : D := .tup [.int p.1, tupI p.2]
def ltP (a b : Int × List Int) : Bool := decide (a.1 < b.1 ∨ (a.1 = b.1 ∧ a.2 < b.2))
def minP (x : Int × List Int) (xs : List (Int × List Int)) : Int × List Int := xs.foldl (fun a y => if ltP y a then y else a) x
/-- min(xs) -/
def dMinP (t : DE) : DE := fun env k x => t env (fun d e => ∃ (z : Int × List Int) (zs : List (Int × List Int)), d = .lst ((z :: zs).map prI) ∧ k (prI (minP z zs)) e) x
theorem py_prI (p : Int × List Int) : py (prI p) = .tuple [.int p.1, .tuple (p.2.map .int)] := by
  rw [prI, py, pys, pys, pys, py, py_tupI]
theorem alike_prI (p q : Int × List Int) : alike (py (prI p)) (py (prI q)) = true := by
  rw [py_prI, py_prI]
  have := alike_ints p.2 q.2
  simp [alike, alikeAll, this]
theorem eqvAll_ints : ∀ xs ys : List Int, PyData.eqvAll (xs.map .int) (ys.map .int) = decide (xs = ys)
  | [], [] => by simp [PyData.eqvAll]
  | [], _ :: _ => by simp [PyData.eqvAll]
  | _ :: _, [] => by simp [PyData.eqvAll]
  | x :: xs, y :: ys => by
    show PyData.eqvAll (.int x :: xs.map .int) (.int y :: ys.map .int) = _
    rw [PyData.eqvAll, eqvAll_ints xs ys, PyData.eqv]
    by_cases h : x = y <;> by_cases h' : xs = ys <;> simp [h, h']
theorem lt_prI (p q : Int × List Int) : dataLt (py (prI p)) (py (prI q)) = ltP p q := by
  have h2 : alike (PyData.tuple (p.2.map .int)) (.tuple (q.2.map .int)) = true := by simpa [alike] using alike_ints p.2 q.2
  rw [py_prI, py_prI, PySem.W.dataLt_pair (by simp [alike]) h2, dataLt_tuple, PySem.W.dataLt_int]
  have e1 : PyProof.Rows.lexLt itemOrd (PySem.W.keyToksAll (p.2.map .int)) (PySem.W.keyToksAll (q.2.map .int)) = decide (p.2 < q.2) := dataLt_ints p.2 q.2
  rw [e1]
  have e2 : PyData.eqv (.int p.1) (.int q.1) = decide (p.1 = q.1) := by
    simp only [PyData.eqv]
    by_cases h : p.1 = q.1 <;> simp [h]
  have e3 : PyData.eqv (.tuple (p.2.map .int)) (.tuple (q.2.map .int)) = true → ¬ p.2 < q.2 := by
    intro h
    rw [PyData.eqv, eqvAll_ints] at h
    rw [of_decide_eq_true h]
    exact List.lt_irrefl _
  unfold ltP
  rw [e2]
  by_cases h : p.1 = q.1
  · cases e : PyData.eqv (.tuple (p.2.map .int)) (.tuple (q.2.map .int)) with
    | true => simp [h, e3 e]
    | false => simp [h]
  · simp [h]
theorem inj_prI {p q : Int × List Int} (h : py (prI p) = py (prI q)) : p = q := by
  rw [py_prI, py_prI] at h
  injection h with h
  injection h with h1 h2
  injection h1 with h1
  injection h2 with h2 _
  injection h2 with h2
  have : p.2 = q.2 := by
    have := congrArg (fun l => PyData.eqvAll l (q.2.map .int)) h2
    rw [eqvAll_ints, eqvAll_ints] at this
    simpa using this
  exact Prod.ext h1 this
theorem minP_mem : ∀ (xs : List (Int × List Int)) (x : Int × List Int), minP x xs ∈ x :: xs
  | [], x => List.mem_cons_self ..
  | y :: ys, x => by
    show minP (if ltP y x then y else x) ys ∈ _
    have := minP_mem ys (if ltP y x then y else x)
    by_cases h : ltP y x = true
    · rw [if_pos h] at this ⊢
      exact List.mem_cons_of_mem _ this
    · rw [if_neg h] at this ⊢
      rcases List.mem_cons.mp this with e | e
      · rw [e]; exact List.mem_cons_self ..
      · exact List.mem_cons_of_mem _ (List.mem_cons_of_mem _ e)
theorem minP_py : ∀ (xs : List (Int × List Int)) (x : Int × List Int), PySem.W.minD (py (prI x)) (xs.map fun p => py (prI p)) = py (prI (minP x xs))
  | [], _ => rfl
  | y :: ys, x => by
    show PySem.W.minD (if dataLt (py (prI y)) (py (prI x)) then py (prI y) else py (prI x)) _ = py (prI (minP (if ltP y x then y else x) ys))
    rw [lt_prI]
    by_cases h : ltP y x = true
    · rw [if_pos h, if_pos h]; exact minP_py ys y
    · rw [if_neg h, if_neg h]; exact minP_py ys x
def rMinP (K : PySem.W.Frag) : List V → Hp → VK → Prop := fun vs H Q => ∃ (a : Addr) (xs : List V) (z : Int × List Int) (zs : List (Int × List Int)) (Av : AS), vs = [V.ref a] ∧ SqL K H a xs ∧ Reps K Av H ((z :: zs).map prI) xs ∧ ∀ x, Rep K Av H (prI (minP z zs)) x → Q x H
section
variable {X : Cx}
theorem plD_prI (n : Nat) (p : Int × List Int) : plD (n + 2) (prI p) = true := by
  show plDs (n + 1) [.int p.1, tupI p.2] = true
  rw [plDs, plDs, plDs]
  have : plD (n + 1) (tupI p.2) = true := plDs_ints p.2
  rw [this]
  rfl
theorem cr_minP (hc : X.calm = true) (hu : X.A.units + 65 < cLine) : CallR X (.builtin "min") (rMinP X.K) := by
  intro pins s σ H vs us Q I r h
  obtain ⟨a, xs, z, zs, Av, rfl, hs, hr, q⟩ := h
  obtain ⟨its, rv, hl, hz⟩ := I.list hs
  rw [Vals.ref1 r]
  have pl : plDs 40 ((z :: zs).map prI) = true := by
    rw [plDs_iff]
    intro d hd
    obtain ⟨p, _, rfl⟩ := List.mem_map.mp hd
    exact plD_prI 38 p
  obtain ⟨as, ra⟩ := Dp.readsAll I _ _ its (reps_dp _ 40 _ pl hr) rv
  have e1 : pys ((z :: zs).map prI) = py (prI z) :: zs.map fun p => py (prI p) := by
    rw [pys_map, List.map_map]; rfl
  rw [e1] at ra
  have mem : ∀ d ∈ py (prI z) :: zs.map (fun p => py (prI p)), ∃ p, d = py (prI p) := fun d hd => by
    rcases List.mem_cons.mp hd with rfl | hd
    · exact ⟨z, rfl⟩
    · obtain ⟨p, _, rfl⟩ := List.mem_map.mp hd
      exact ⟨p, rfl⟩
  have hdep : ∀ ps : List (Int × List Int), PyData.depthAll (ps.map fun p => py (prI p)) ≤ 40 := by
    intro ps
    have h : plDs 40 (ps.map prI) = true := by
      rw [plDs_iff]
      intro d hd
      obtain ⟨p, _, rfl⟩ := List.mem_map.mp hd
      exact plD_prI 38 p
    have := (plDs_ok _ 40 h).2
    rw [pys_map, List.map_map] at this
    exact this
  refine PySem.W.min_list_data (I.ok.hd hc) hl.isList ra ⟨fun x hx y hy => ?_, fun x hx => ?_⟩ ?_ fun i v h' tk bs hv hm hk => ?_
  · obtain ⟨p, rfl⟩ := mem x hx
    obtain ⟨p', rfl⟩ := mem y hy
    exact alike_prI p p'
  · obtain ⟨p, rfl⟩ := mem x hx
    rw [py_prI]
    simp
  · have := hdep (z :: zs)
    rw [List.map_cons] at this
    show X.A.units + 1 + _ < cLine
    omega
  · have hv' : its[i]? = some v := by simpa using hv
    obtain ⟨x, hx, rx⟩ : ∃ x, xs[i]? = some x ∧ RelV x v := by
      cases e : xs[i]? with
      | none => rw [rv.none_of e] at hv'; cases hv'
      | some x =>
        obtain ⟨u, h1, h2⟩ := rv.get e
        rw [hv'] at h1
        cases h1
        exact ⟨x, rfl, h2⟩
    obtain ⟨d, hd, hrd⟩ := hr.getV hx
    rw [List.getElem?_map] at hd
    cases hp : (z :: zs)[i]? with
    | none => rw [hp] at hd; cases hd
    | some p =>
      rw [hp] at hd
      cases hd
      obtain ⟨as2, r2⟩ := Dp.reads I (py (prI p)) x v (rep_dp _ 40 x (plD_prI 38 p) hrd) rx
      rw [minP_py] at hm
      have ee : py (prI p) = py (prI (minP z zs)) := PySem.W.alike_unique _ _ _ _ _ (alike_prI _ _) (PyProof.Rows.Reads.keeps hk r2) hm
      have ee := inj_prI ee
      subst ee
      exact ⟨x, H, I.kept hk, rx, q x hrd⟩
end
section
variable {X : Cx} {W : HW} {e : Expr} {p q pos : Pos} {t : DE}
theorem de_minP (hc : X.calm = true) (hu : X.A.units + 65 < cLine) (hg : Gl X "min") (hm : X.mg "min" = none) (h : PE X e (up X.K W t)) (nb : starEach [e] X.env = (false, eval e X.env) :: starEach [] X.env := by rfl) {p2 : Pos} :
    PE X (.Call (.Name "min" p2) [e] [] pos) (up X.K W (dMinP t)) := by
  refine pe_conv (pe_callB (cr_minP hc hu) hg hm (by decide +kernel) (pa_cons h pa_nil nb) (by decide) (by decide) nb rfl) fun σ H Q h => ?_
  obtain ⟨C, M, env, k, x, R, h, hk, hx⟩ := h
  refine ⟨C, M, env, _, x, R, h, fun a e1 v H1 M1 h1 R1 k1 g1 r1 => ?_, hx⟩
  obtain ⟨z, zs, rfl, kd⟩ := h1
  obtain ⟨a, vs, rfl, na, ha, hr⟩ := r1
  exact ⟨a, vs, z, zs, _, rfl, SqL.of ha, hr, fun x hx => R1.fin k1 g1 kd hk _ H1 (Same.refl _) hx⟩
end

/-! ### a list times a number -/
theorem reps_flat {K : PySem.W.Frag} {Av : AS} {H : Hp} {ds : List D} {vs : List V} (h : Reps K Av H ds vs) : ∀ n : Nat, Reps K Av H (List.replicate n ds).flatten (List.replicate n vs).flatten
  | 0 => rfl
  | n + 1 => by
    rw [List.replicate_succ, List.replicate_succ, List.flatten_cons, List.flatten_cons]
    exact h.append (reps_flat h n)
theorem b_repL {K : PySem.W.Frag} : BinF K rRep repL := ⟨fun {Av H a b d x y Q} av ra rb e q => by
  cases a <;> cases b <;> first | (cases e; done) | skip
  obtain ⟨⟨h0, h1, h2⟩, rfl⟩ := ite_some e
  obtain ⟨p, vs, rfl, np, hp, r1⟩ := id ra
  have rb : y = .int _ := rb
  subst rb
  refine ⟨p, _, vs, rfl, rfl, hp, by omega, by omega, by rw [r1.length, sizeLine_eq]; exact h2, fun t ht => q t _ _ (same_new ht) ht ⟨rfl, _, upd_same, (reps_flat r1 _).samep (same_new ht) ht⟩⟩⟩
end FX

set_option Elab.async false
set_option linter.all false
set_option maxRecDepth 100000
/-! FxL: an item of an own list; slices of lists and tuples as data -/
namespace FX
open PySem PySem.Spec PyProof.Rows L2
theorem _root_.L2.Room.u65 {k : Nat} {A : Around} (r : Room k A) : A.units + 65 < cLine := by have := r.un; omega
theorem _root_.L2.Room.u64 {k : Nat} {A : Around} (r : Room k A) : A.units + 64 < cLine := by have := r.un; omega
theorem _root_.L2.Room.u1 {k : Nat} {A : Around} (r : Room k A) : A.units + 1 < cLine := by have := r.un; omega
theorem _root_.L2.Room.u0 {k : Nat} {A : Around} (r : Room k A) : A.units < cLine := by have := r.un; omega
theorem reps_atI {K : PySem.W.Frag} {Av : AS} {H : Hp} {ds : List D} {vs : List V} {i : Int} {d : D} (r : Reps K Av H ds vs) (e : atI ds i = some d) : ∃ v, atI vs i = some v ∧ Rep K Av H d v := by
  unfold atI at e ⊢
  rw [r.length]
  cases h : ixN ds.length i with
  | none => rw [h] at e; cases e
  | some j =>
    rw [h] at e
    exact r.get (i := j) e
/-- xs[j], xs an own list -/
def dItemO (i : Nat) (te : DE) : DE := fun env k x => (∃ ds, mineD env[i]? = some (.lst ds)) ∧ te env (fun j e => ∃ ds n d, j = .int n ∧ mineD e[i]? = some (.lst ds) ∧ atI ds n = some d ∧ k d e) x
/-- a slice, of whatever -/
def slD (d : D) (lo hi : Option Int) : Option D := match d with
  | .lst ds => some (.lst (cutD ds lo hi))
  | .tup ds => some (.tup (cutD ds lo hi))
  | _ => none
def dSl (t : DE) (tl th : DP) : DE := fun env k x => t env (fun d e1 => tl e1 (fun lo e2 => th e2 (fun hi e3 => ∃ d', slD d lo hi = some d' ∧ k d' e3) x) x) x
section
variable {X : Cx} {W : HW} {e e2 : Expr} {elo ehi : Option Expr} {p q pos p2 : Pos} {t u : DE} {tl th : DP}
theorem de_itemO (i : Nat) {y : Str} {py : Pos} (hy : PE X (.Name y py) (tVar i)) (hi : PE X e2 (up X.K W u)) (hs : PlainIx e2) : PE X (.Subscript (.Name y py) e2 pos) (up X.K W (dItemO i u)) := by
  refine pe_conv (pe_ix ix_seq hy hi hs) fun σ H Q h => ?_
  obtain ⟨C, M, env, k, x, R, ⟨⟨ds0, h0⟩, h⟩, hk, hx⟩ := h
  obtain ⟨p, vs, s1, m1, h1, r1, _⟩ := R.mineL h0
  refine ⟨_, s1, C, M, env, _, x, R, h, fun a e1 v H1 M1 h1 R1 k1 g1 rv => ?_, hx⟩
  obtain ⟨ds, n, d, rfl, h2, hat, kd⟩ := h1
  obtain ⟨p2, vs2, s2, m2, hp2, r2, _⟩ := R1.mineL h2
  rw [s1] at s2; cases s2
  have rv : v = .int n := rv
  subst rv
  obtain ⟨w, hw, rw'⟩ := reps_atI r2 hat
  exact .inl ⟨p, vs2, n, w, rfl, rfl, SqL.of hp2, hw, hk _ _ _ H1 M1 kd R1 k1 g1 rw'⟩
theorem de_sl (he : PE X e (up X.K W t)) (hl : PO X elo (upP X.K W tl)) (hh : PO X ehi (upP X.K W th)) : PE X (.Subscript e (.Slice elo ehi none p2) pos) (up X.K W (dSl t tl th)) :=
  pe_conv (pe_slice (sl_list.or sl_tupA) he hl hh) fun σ H Q h => by
    obtain ⟨C, M, env, k, x, R, h, hk, hx⟩ := h
    refine ⟨C, M, env, _, x, R, h, fun a e1 v H1 M1 h1 R1 k1 g1 r1 => ?_, hx⟩
    have hx1 : ∀ e env' H' M', x e env' → Rel X.K C M' env' σ H' → Keep M1 H1 H' → Grow M1 H1 M' → W e H' := fun e env' H' M' xe R' k' g' => hx e env' H' M' xe R' (k1.trans g1 k') (Grow.trans k1 g1 g')
    refine ⟨C, M1, e1, _, x, R1, h1, fun l e2 H2 M2 h2 R2 k2 g2 => ?_, hx1⟩
    have k12 := k1.trans g1 k2
    have g12 := Grow.trans k1 g1 g2
    refine ⟨C, M2, e2, _, x, R2, h2, fun u e3 H3 M3 h3 R3 k3 g3 => ?_, fun e env' H' M' xe R' k' g' => hx e env' H' M' xe R' (k12.trans g12 k') (Grow.trans k12 g12 g')⟩
    have k13 := k12.trans g12 k3
    have g13 := Grow.trans k12 g12 g3
    obtain ⟨d', hd, kd⟩ := h3
    have r3 := k3.rep g3 (k2.rep g2 r1)
    have fin := R3.fin k13 g13 kd hk
    cases a with
    | lst ds =>
      cases hd
      obtain ⟨b, vs, rfl, nb, hb, hr⟩ := id r3
      exact .inl ⟨b, vs, rfl, SqL.of hb, fun t ht => fin _ _ (same_new ht) ⟨t, _, rfl, R3.avt.new ht, upd_same, (cut_reps hr l u).same (same_new ht)⟩⟩
    | tup ds =>
      cases hd
      obtain ⟨b, vs, rfl, nb, hb, hr⟩ := id r3
      refine .inr ⟨b, vs, rfl, SqT.of hb, fun hw => ?_, fun hw t ht => ?_⟩
      · refine fin _ H3 (Same.refl _) ?_
        have e : cutD ds l u = ds := by
          unfold cutD
          rw [hr.length] at hw
          rw [hw.1, hw.2]
          simp
        rw [e]
        exact r3
      · exact fin _ _ (same_new ht) ⟨t, _, rfl, R3.avt.new ht, upd_same, (cut_reps hr l u).same (same_new ht)⟩
    | _ => cases hd
end
end FX

set_option Elab.async false
set_option linter.all false
set_option maxRecDepth 100000
/-! FxM: running readings by simp; comprehensions and loops -/
namespace FX
open PySem PySem.Spec PyProof.Rows L2
theorem x_itT (ds : List D) : itemsD (.tup ds) = some ds := rfl
theorem x_itL (ds : List D) : itemsD (.lst ds) = some ds := rfl
theorem x_itS (ns : List Int) : itemsD (.scr ns) = some (ns.map .int) := rfl
theorem x_na10 : Int.natAbs 10 = 10 := rfl
theorem x_set0 (a b c : D) : [a, b].set 0 c = [c, b] := rfl
theorem x_set1 (a b c : D) : [a, b].set 1 c = [a, c] := rfl
theorem x_ixN20 : ixN 2 0 = some 0 := by decide
theorem x_ixN21 : ixN 2 1 = some 1 := by decide
theorem ty_non : tyD .non = some "NoneType" := rfl
theorem ty_bl (b : Bool) : tyD (.bl b) = some "bool" := rfl
theorem ty_int (b : Int) : tyD (.int b) = some "int" := rfl
theorem ty_str (b : Str) : tyD (.str b) = some "str" := rfl
theorem ty_tup (b : List D) : tyD (.tup b) = some "tuple" := rfl
theorem ty_lst (b : List D) : tyD (.lst b) = some "list" := rfl
theorem x_slT (ds : List D) (lo hi : Option Int) : slD (.tup ds) lo hi = some (.tup (cutD ds lo hi)) := rfl
theorem x_slL (ds : List D) (lo hi : Option Int) : slD (.lst ds) lo hi = some (.lst (cutD ds lo hi)) := rfl
theorem tru_non : truD .non = some false := rfl
theorem tru_bl (b : Bool) : truD (.bl b) = some b := rfl
theorem tru_int (i : Int) : truD (.int i) = some (i != 0) := rfl
theorem tru_tup (ds : List D) : truD (.tup ds) = some (!ds.isEmpty) := rfl
theorem tru_lst (ds : List D) : truD (.lst ds) = some (!ds.isEmpty) := rfl
theorem x_sub (i j : Int) : subD (.int i) (.int j) = some (.int (i - j)) := rfl
theorem x_add (i j : Int) : addA (.int i) (.int j) = some (.int (i + j)) := rfl
theorem x_addT (a b : List D) : addA (.tup a) (.tup b) = if a.length + b.length ≤ 16777216 then some (.tup (a ++ b)) else none := rfl
theorem x_mul (i j : Int) : mulD (.int i) (.int j) = if (-(2 ^ 64) < i ∧ i < 2 ^ 64) ∨ (-(2 ^ 64) < j ∧ j < 2 ^ 64) then some (.int (i * j)) else none := rfl
theorem x_div (i j : Int) : divD (.int i) (.int j) = if 0 < j ∧ j < 1073741824 then some (.int (i / j)) else none := rfl
theorem x_mod (i j : Int) : modD (.int i) (.int j) = if 0 < j then some (.int (i % j)) else none := rfl
theorem x_pow (i j : Int) : powD (.int i) (.int j) = if 0 ≤ j ∧ j ≤ 1000000 ∧ i.natAbs < 2 ^ 64 then some (.int (i ^ j.toNat)) else none := rfl
theorem x_le (i j : Int) : leD (.int i) (.int j) = some (.bl (decide (i ≤ j))) := rfl
theorem x_gt (i j : Int) : gtD (.int i) (.int j) = some (.bl (decide (j < i))) := rfl
theorem x_ge (i j : Int) : geD (.int i) (.int j) = some (.bl (decide (j ≤ i))) := rfl
theorem x_lt (i j : Int) : ltD (.int i) (.int j) = some (.bl (decide (i < j))) := rfl
theorem x_neg (i : Int) : negD (.int i) = some (.int (-i)) := rfl
theorem x_catL (a b : List D) : catL (.lst a) (.lst b) = if a.length + b.length ≤ 16777216 then some (.lst (a ++ b)) else none := rfl
theorem pl_int (n : Nat) (i : Int) : plD n (.int i) = true := by cases n <;> rfl
theorem pl_bl (n : Nat) (i : Bool) : plD n (.bl i) = true := by cases n <;> rfl
theorem pl_non (n : Nat) : plD n .non = true := by cases n <;> rfl
theorem x_eq (i j : Int) : eqOp (.int i) (.int j) = some (.bl (decide (i = j))) := by
  unfold eqOp
  rw [if_pos ⟨pl_int _ _, pl_int _ _⟩]
  have : eqD (.int i) (.int j) = (i == j) := by rw [eqD]
  rw [this]
  by_cases h : i = j
  · subst h; simp
  · rw [beq_false_of_ne h, decide_eq_false h]
theorem x_ne (i j : Int) : neOp (.int i) (.int j) = some (.bl (!decide (i = j))) := by
  unfold neOp
  rw [if_pos ⟨pl_int _ _, pl_int _ _⟩]
  have : eqD (.int i) (.int j) = (i == j) := by rw [eqD]
  rw [this]
  by_cases h : i = j
  · subst h; simp
  · rw [beq_false_of_ne h, decide_eq_false h]
theorem x_isN (d : D) : isNoneOp d .non = some (.bl (isNonD d)) := rfl
theorem x_notN (d : D) : notNoneOp d .non = some (.bl (!isNonD d)) := rfl
theorem x_isB (a b : Bool) : isBlOp (.bl a) (.bl b) = some (.bl (decide (a = b))) := rfl
theorem x_notB (a b : Bool) : notBlOp (.bl a) (.bl b) = some (.bl (!decide (a = b))) := rfl
theorem x_lenT (ds : List D) : lenF [.tup ds] = some (.int ds.length) := rfl
theorem x_lenL (ds : List D) : lenF [.lst ds] = some (.int ds.length) := rfl
theorem x_lenS (ns : List Int) : lenF [.scr ns] = some (.int ns.length) := rfl
theorem x_min (i j : Int) : min2F [.int i, .int j] = some (.int (min i j)) := by
  show some (D.int (if j < i then j else i)) = _
  by_cases h : j < i
  · rw [if_pos h, Int.min_eq_right (by omega)]
  · rw [if_neg h, Int.min_eq_left (by omega)]
theorem x_max (i j : Int) : max2F [.int i, .int j] = some (.int (max i j)) := by
  show some (D.int (if j > i then j else i)) = _
  by_cases h : j > i
  · rw [if_pos h, Int.max_eq_right (by omega)]
  · rw [if_neg h, Int.max_eq_left (by omega)]
theorem x_intI (i : Int) : intF [.int i] = some (.int i) := rfl
theorem x_intB (b : Bool) : intF [.bl b] = some (.int (if b then 1 else 0)) := rfl
theorem x_tupL (ds : List D) : tupF [.lst ds] = some (.tup ds) := rfl
theorem x_tupT (ds : List D) : tupF [.tup ds] = some (.tup ds) := rfl
theorem x_lstL (ds : List D) : lstF [.lst ds] = some (.lst ds) := rfl
theorem x_lstT (ds : List D) : lstF [.tup ds] = some (.lst ds) := rfl
theorem x_ixT0 (d : D) (ds : List D) : ixD (.tup (d :: ds)) (.int 0) = some d := by
  show atI (d :: ds) 0 = _
  unfold atI ixN
  rw [if_pos (by omega), if_pos (by simp <;> omega)]; rfl
theorem x_ixT1 (a b : D) (ds : List D) : ixD (.tup (a :: b :: ds)) (.int 1) = some b := by
  show atI (a :: b :: ds) 1 = _
  unfold atI ixN
  rw [if_pos (by omega), if_pos (by simp <;> omega)]; rfl
theorem x_ixL0 (d : D) (ds : List D) : ixD (.lst (d :: ds)) (.int 0) = some d := by
  show atI (d :: ds) 0 = _
  unfold atI ixN
  rw [if_pos (by omega), if_pos (by simp <;> omega)]; rfl
theorem x_ixL1 (a b : D) (ds : List D) : ixD (.lst (a :: b :: ds)) (.int 1) = some b := by
  show atI (a :: b :: ds) 1 = _
  unfold atI ixN
  rw [if_pos (by omega), if_pos (by simp <;> omega)]; rfl
theorem take_succ_get {α : Type} {xs : List α} {i : Nat} {d : α} (h : xs[i]? = some d) : xs.take (i + 1) = xs.take i ++ [d] := by
  rw [List.take_add_one, h]; rfl
/-- a comprehension whose turns change nothing -/
theorem lc_go {src : DI} {g : DG} {tt : DT} {te : DE} {vs : List Nat} {env : Env} {k : EK} {x : XW} (items : List D) (e : Env) (F : D → Option D) (hs : ∀ K : List D → Env → Prop, K items e → src env K x) (hl : items.length ≤ 1000000)
    (h : ∀ d, d ∈ items → ∀ J : Option D → Env → Prop, J (F d) (wipeE vs e) → g d (wipeE vs e) (fun e2 => tt e2 (fun b e3 => if b = true then te e3 (fun y e4 => J (some y) (wipeE vs e4)) fls else J none (wipeE vs e3)) fls))
    (hk : k (.lst (items.filterMap F)) (wipeE vs e)) : dLc src g tt te vs env k x := by
  refine hs _ ⟨hl, fun i acc env => env = wipeE vs e ∧ acc = (items.take i).filterMap F, ⟨rfl, rfl⟩, fun i d acc env hd hI => ?_, fun acc env hI => ?_⟩
  · obtain ⟨rfl, rfl⟩ := hI
    have hj := h d (List.mem_of_getElem? hd) (fun o e' => match o with
      | some y => e' = wipeE vs e ∧ (items.take i).filterMap F ++ [y] = (items.take (i + 1)).filterMap F
      | none => e' = wipeE vs e ∧ (items.take i).filterMap F = (items.take (i + 1)).filterMap F) (by
        rw [take_succ_get hd, List.filterMap_append]
        cases hF : F d with
        | none => exact ⟨rfl, by simp [hF]⟩
        | some y => exact ⟨rfl, by simp [hF]⟩)
    exact hj
  · obtain ⟨rfl, rfl⟩ := hI
    rw [List.take_length]
    exact hk
/-- a loop, by an invariant -/
theorem for_go {src : DI} {tg : DG} {tb : DS} {k : DK} {env : Env} (items : List D) (e : Env) (I : Nat → Env → Prop) (hs : ∀ K : List D → Env → Prop, K items e → src env K k.ex) (h0 : I 0 e)
    (ht : ∀ i d env, items[i]? = some d → I i env → tg d env (fun e2 => tb { k with nx := I (i + 1), ct := I (i + 1), bk := k.nx } e2)) (hf : ∀ env, I items.length env → k.nx env) : sFor src tg tb k env :=
  hs _ ⟨I, h0, ht, hf⟩
/-- a loop over what is drawn -/
theorem for_any {src : DI} {tg : DG} {tb : DS} {k : DK} {env : Env} (P : List D → Env → Prop) (hs : ∀ K : List D → Env → Prop, (∀ items e, P items e → K items e) → src env K k.ex)
    (h : ∀ items e, P items e → ∃ I : Nat → Env → Prop, I 0 e ∧ (∀ i d env, items[i]? = some d → I i env → tg d env (fun e2 => tb { k with nx := I (i + 1), ct := I (i + 1), bk := k.nx } e2)) ∧ ∀ env, I items.length env → k.nx env) : sFor src tg tb k env := hs _ h
/-- a comprehension, by an invariant -/
theorem lc_any {src : DI} {g : DG} {tt : DT} {te : DE} {vs : List Nat} {env : Env} {k : EK} {x : XW} (P : List D → Env → Prop) (hs : ∀ K : List D → Env → Prop, (∀ items e, P items e → K items e) → src env K x)
    (h : ∀ items e, P items e → items.length ≤ 1000000 ∧ ∃ I : Nat → List D → Env → Prop, I 0 [] (wipeE vs e) ∧
      (∀ i d acc env, items[i]? = some d → I i acc env → g d env (fun e2 => tt e2 (fun b e3 => if b = true then te e3 (fun y e4 => I (i + 1) (acc ++ [y]) (wipeE vs e4)) fls else I (i + 1) acc (wipeE vs e3)) fls)) ∧
      (∀ acc env, I items.length acc env → k (.lst acc) env)) : dLc src g tt te vs env k x := hs _ h
theorem while_go {c : DT} {tb : DS} {k : DK} {env : Env} (I : Nat → Env → Prop) (h0 : ∃ m, I m env) (ht : ∀ m env, I m env → c env (fun b e => if b = true then tb { k with nx := fun e' => ∃ m', m' < m ∧ I m' e', ct := fun e' => ∃ m', m' < m ∧ I m' e', bk := k.nx } e else k.nx e) k.ex) : sWhile c tb k env := ⟨I, h0, ht⟩
/-- two loops in one comprehension, nothing changed -/
theorem lc2_go {src src1 : DI} {g g1 : DG} {tt tt1 : DT} {te : DE} {vs vs1 : List Nat} {env : Env} {k : EK} {x : XW} (items : List D) (e : Env) (G : D → Option (List D)) (F : D → D → Option D) (st : D → Env)
    (hs : ∀ K : List D → Env → Prop, K items e → src env K x)
    (hsz : ∀ i, (((items.take i).map fun d => ((G d).getD []).filterMap (F d)).flatten).length ≤ 1000000)
    (hG : ∀ d, d ∈ items → ∀ (J : Bool → Env → Prop), J (G d).isSome (st d) → g d (wipeE vs e) (fun e2 => tt e2 J fls))
    (hn : ∀ d, d ∈ items → G d = none → wipeE vs (st d) = wipeE vs e)
    (h1 : ∀ d, d ∈ items → ∀ ds, G d = some ds → ds.length ≤ 1000000 ∧ (∀ K : List D → Env → Prop, K ds (st d) → src1 (st d) K fls) ∧ wipeE vs (wipeE vs1 (st d)) = wipeE vs e ∧
      ∀ d1, d1 ∈ ds → ∀ J : Option D → Env → Prop, J (F d d1) (wipeE vs1 (st d)) → g1 d1 (wipeE vs1 (st d)) (fun e5 => tt1 e5 (fun b e6 => if b = true then te e6 (fun y e7 => J (some y) (wipeE vs1 e7)) fls else J none (wipeE vs1 e6)) fls))
    (hk : k (.lst ((items.map fun d => ((G d).getD []).filterMap (F d)).flatten)) (wipeE vs e)) : dLc2 src g tt src1 g1 tt1 te vs vs1 env k x := by
  refine hs _ ⟨fun i acc env => env = wipeE vs e ∧ acc = ((items.take i).map fun d => ((G d).getD []).filterMap (F d)).flatten, ⟨rfl, rfl⟩, fun i d acc env hd hI => ?_, fun acc env hI => ?_⟩
  · obtain ⟨rfl, rfl⟩ := hI
    have hm := List.mem_of_getElem? hd
    have ee : ((items.take (i + 1)).map fun d => ((G d).getD []).filterMap (F d)).flatten = ((items.take i).map fun d => ((G d).getD []).filterMap (F d)).flatten ++ ((G d).getD []).filterMap (F d) := by
      rw [take_succ_get hd]; simp
    refine hG d hm _ ?_
    cases hGd : G d with
    | none =>
      rw [hGd] at ee
      exact ⟨hn d hm hGd, by rw [ee]; simp⟩
    | some ds =>
      rw [hGd] at ee
      obtain ⟨hz, hsrc, hw, hstep⟩ := h1 d hm ds hGd
      refine hsrc _ ⟨fun j acc1 env1 => env1 = wipeE vs1 (st d) ∧ acc1 = ((items.take i).map fun d => ((G d).getD []).filterMap (F d)).flatten ++ (ds.take j).filterMap (F d), ⟨rfl, by simp⟩, fun j d1 acc1 env1 hd1 hI1 => ?_, fun acc1 env1 hI1 => ?_⟩
      · obtain ⟨rfl, rfl⟩ := hI1
        have hj := hstep d1 (List.mem_of_getElem? hd1) (fun o e' => match o with
          | some y => (((items.take i).map fun d => ((G d).getD []).filterMap (F d)).flatten ++ (ds.take j).filterMap (F d)).length < 16777216 ∧ e' = wipeE vs1 (st d) ∧ (((items.take i).map fun d => ((G d).getD []).filterMap (F d)).flatten ++ (ds.take j).filterMap (F d)) ++ [y] = ((items.take i).map fun d => ((G d).getD []).filterMap (F d)).flatten ++ (ds.take (j + 1)).filterMap (F d)
          | none => e' = wipeE vs1 (st d) ∧ ((items.take i).map fun d => ((G d).getD []).filterMap (F d)).flatten ++ (ds.take j).filterMap (F d) = ((items.take i).map fun d => ((G d).getD []).filterMap (F d)).flatten ++ (ds.take (j + 1)).filterMap (F d)) (by
            rw [take_succ_get hd1, List.filterMap_append]
            cases hF : F d d1 with
            | none => exact ⟨rfl, by simp [hF]⟩
            | some y =>
              refine ⟨?_, rfl, by simp [hF]⟩
              rw [List.length_append]
              have h1 := hsz i
              have h2 : ((ds.take j).filterMap (F d)).length ≤ (ds.take j).length := List.length_filterMap_le ..
              have h3 : (ds.take j).length ≤ ds.length := by rw [List.length_take]; omega
              omega)
        exact hj
      · obtain ⟨rfl, rfl⟩ := hI1
        refine ⟨hw, ?_⟩
        rw [ee, List.take_length]; rfl
  · obtain ⟨rfl, rfl⟩ := hI
    rw [List.take_length]
    exact hk
end FX

set_option Elab.async false
set_option linter.all false
set_option maxRecDepth 100000
/-! MathA: warrens, lots, where the fox can be behind a day -/
namespace MA
open FX
/-! ### strictly ascending lists -/
def Asc (l : List Int) : Prop := l.Pairwise (· < ·)
theorem asc_ext : ∀ {l m : List Int}, Asc l → Asc m → (∀ z, z ∈ l ↔ z ∈ m) → l = m
  | [], [], _, _, _ => rfl
  | [], b :: m, _, _, h => by have := (h b).mpr (List.mem_cons_self ..); cases this
  | a :: l, [], _, _, h => by have := (h a).mp (List.mem_cons_self ..); cases this
  | a :: l, b :: m, h1, h2, h => by
    have p1 := List.pairwise_cons.mp h1
    have p2 := List.pairwise_cons.mp h2
    have e : a = b := by
      rcases List.mem_cons.mp ((h a).mp (List.mem_cons_self ..)) with e | e
      · exact e
      · rcases List.mem_cons.mp ((h b).mpr (List.mem_cons_self ..)) with e2 | e2
        · exact e2.symm
        · have := p2.1 a e; have := p1.1 b e2; omega
    subst e
    rw [asc_ext p1.2 p2.2 fun z => ?_]
    constructor
    · intro hz
      rcases List.mem_cons.mp ((h z).mp (List.mem_cons_of_mem _ hz)) with e | e
      · subst e; have := p1.1 z hz; omega
      · exact e
    · intro hz
      rcases List.mem_cons.mp ((h z).mpr (List.mem_cons_of_mem _ hz)) with e | e
      · subst e; have := p2.1 z hz; omega
      · exact e
theorem asc_of_sorted : ∀ {l : List Int}, l.Pairwise (· ≤ ·) → l.Nodup → Asc l
  | [], _, _ => List.Pairwise.nil
  | a :: l, h1, h2 => by
    have p1 := List.pairwise_cons.mp h1
    have p2 := List.nodup_cons.mp h2
    refine List.pairwise_cons.mpr ⟨fun b hb => ?_, asc_of_sorted p1.2 p2.2⟩
    have := p1.1 b hb
    have : a ≠ b := fun e => p2.1 (e ▸ hb)
    omega
theorem Asc.nodup {l : List Int} (h : Asc l) : l.Nodup := h.imp fun {a b} q => by omega
theorem Asc.filter {l : List Int} (h : Asc l) (p : Int → Bool) : Asc (l.filter p) := h.sublist List.filter_sublist
/-- 0 .. n-1 -/
def upto (n : Nat) : List Int := (List.range n).map fun i => ((i : Nat) : Int)
theorem mem_upto {n : Nat} {z : Int} : z ∈ upto n ↔ 0 ≤ z ∧ z < n := by
  unfold upto
  rw [List.mem_map]
  constructor
  · rintro ⟨i, hi, rfl⟩
    have := List.mem_range.mp hi
    omega
  · rintro ⟨h1, h2⟩
    exact ⟨z.toNat, List.mem_range.mpr (by omega), by omega⟩
theorem asc_upto (n : Nat) : Asc (upto n) := by
  unfold upto Asc
  rw [List.pairwise_map]
  exact List.pairwise_lt_range.imp fun {a b} h => by omega
theorem sort_asc {l m : List Int} (hn : l.Nodup) (hm : Asc m) (h : ∀ z, z ∈ l ↔ z ∈ m) : l.mergeSort leI = m := by
  refine asc_ext (asc_of_sorted (sortI_sorted l) ((List.mergeSort_perm _ _).nodup_iff.mpr hn)) hm fun z => ?_
  rw [List.mem_mergeSort]
  exact h z
/-- strictly up -/
def incr : List Int → Bool
  | a :: b :: r => decide (a < b) && incr (b :: r)
  | _ => true
theorem incr_asc : ∀ {l : List Int}, incr l = true ↔ Asc l
  | [] => by simp [incr, Asc]
  | [a] => by simp [incr, Asc]
  | a :: b :: r => by
    rw [incr, Bool.and_eq_true, incr_asc (l := b :: r), decide_eq_true_iff]
    unfold Asc
    constructor
    · rintro ⟨h1, h2⟩
      refine List.pairwise_cons.mpr ⟨fun z hz => ?_, h2⟩
      rcases List.mem_cons.mp hz with rfl | hz
      · exact h1
      · have := (List.pairwise_cons.mp h2).1 z hz; omega
    · intro h
      have p := List.pairwise_cons.mp h
      exact ⟨p.1 b (List.mem_cons_self ..), p.2⟩

/-! ### warrens -/
structure Wn where
  n : Nat
  E : List (Int × Int)
def ltE (p q : Int × Int) : Prop := p.1 < q.1 ∨ (p.1 = q.1 ∧ p.2 < q.2)
structure WOk (w : Wn) : Prop where
  lo : 2 ≤ w.n
  hi : w.n ≤ 10
  asc : w.E.Pairwise ltE
  rng : ∀ p ∈ w.E, 0 ≤ p.1 ∧ p.1 < p.2 ∧ p.2 < w.n
  cov : ∀ h : Int, 0 ≤ h → h < w.n → ∃ p ∈ w.E, h = p.1 ∨ h = p.2
def prE (p : Int × Int) : D := tupI [p.1, p.2]
def wD (w : Wn) : D := .tup [.int w.n, .tup (w.E.map prE)]
def LotOk (n : Nat) (l : List Int) : Prop := Asc l ∧ ∀ z ∈ l, 0 ≤ z ∧ z < n
/-- a passage joins them -/
def joins (w : Wn) (a b : Int) : Bool := decide ((min a b, max a b) ∈ w.E) && decide (a ≠ b)
def near (w : Wn) (h : Int) : List Int := (upto w.n).filter fun o => joins w o h
theorem asc_near (w : Wn) (h : Int) : Asc (near w h) := (asc_upto _).filter _
theorem mem_near {w : Wn} {h o : Int} : o ∈ near w h ↔ (0 ≤ o ∧ o < w.n) ∧ joins w o h = true := by
  unfold near; rw [List.mem_filter, mem_upto]
theorem joins_comm (w : Wn) (a b : Int) : joins w a b = joins w b a := by
  unfold joins
  rw [Int.min_comm, Int.max_comm]
  congr 1
  exact decide_eq_decide.mpr ⟨Ne.symm, Ne.symm⟩
theorem joins_iff {w : Wn} (ok : WOk w) {a b : Int} : joins w a b = true ↔ (a, b) ∈ w.E ∨ (b, a) ∈ w.E := by
  unfold joins
  rw [Bool.and_eq_true, decide_eq_true_iff, decide_eq_true_iff]
  constructor
  · rintro ⟨h, hne⟩
    rcases Int.le_total a b with c | c
    · rw [Int.min_eq_left c, Int.max_eq_right c] at h; exact .inl h
    · rw [Int.min_eq_right c, Int.max_eq_left c] at h; exact .inr h
  · rintro (h | h)
    · have r := ok.rng _ h
      have c : a ≤ b := by have := r.2.1; simp only at this; omega
      refine ⟨by rw [Int.min_eq_left c, Int.max_eq_right c]; exact h, by have := r.2.1; simp only at this; omega⟩
    · have r := ok.rng _ h
      have c : b ≤ a := by have := r.2.1; simp only at this; omega
      refine ⟨by rw [Int.min_eq_right c, Int.max_eq_left c]; exact h, by have := r.2.1; simp only at this; omega⟩
/-- where it can be behind a day -/
def later (w : Wn) (S L : List Int) : List Int := (upto w.n).filter fun o => S.any fun h => !L.contains h && (near w h).contains o
theorem asc_later (w : Wn) (S L : List Int) : Asc (later w S L) := (asc_upto _).filter _
theorem mem_later {w : Wn} {S L : List Int} {o : Int} : o ∈ later w S L ↔ ∃ h ∈ S, h ∉ L ∧ o ∈ near w h := by
  unfold later
  rw [List.mem_filter, mem_upto, List.any_eq_true]
  constructor
  · rintro ⟨_, h, hS, hh⟩
    rw [Bool.and_eq_true, Bool.not_eq_true', List.contains_iff_mem] at hh
    exact ⟨h, hS, by simpa using hh.1, hh.2⟩
  · rintro ⟨h, hS, hL, ho⟩
    refine ⟨(mem_near.mp ho).1, h, hS, ?_⟩
    rw [Bool.and_eq_true, Bool.not_eq_true', List.contains_iff_mem]
    exact ⟨by simpa using hL, ho⟩
theorem later_ok (w : Wn) (S L : List Int) : LotOk w.n (later w S L) := ⟨asc_later w S L, fun z hz => by
  obtain ⟨h, _, _, ho⟩ := mem_later.mp hz
  exact (mem_near.mp ho).1⟩
/-- what next_to gathers -/
def gath (w : Wn) (h : Int) : List Int := (w.E.map fun p => [p.1, p.2].filter fun o => decide (h = p.1 ∨ h = p.2) && decide (o ≠ h)).flatten
theorem mem_gath {w : Wn} (ok : WOk w) {h o : Int} : o ∈ gath w h ↔ o ∈ near w h := by
  rw [mem_near, joins_iff ok]
  unfold gath
  rw [List.mem_flatten]
  constructor
  · rintro ⟨l, hl, ho⟩
    obtain ⟨p, hp, rfl⟩ := List.mem_map.mp hl
    obtain ⟨h1, h2⟩ := List.mem_filter.mp ho
    rw [Bool.and_eq_true, decide_eq_true_iff, decide_eq_true_iff] at h2
    have r := ok.rng p hp
    rcases List.mem_cons.mp h1 with e | h1
    · refine ⟨by omega, ?_⟩
      rcases h2.1 with q | q
      · exact absurd (e.trans q.symm) h2.2
      · subst e q; exact .inl hp
    · have e := List.mem_singleton.mp h1
      refine ⟨by omega, ?_⟩
      rcases h2.1 with q | q
      · subst e q; exact .inr hp
      · exact absurd (e.trans q.symm) h2.2
  · rintro ⟨_, hp | hp⟩
    · have r := ok.rng _ hp
      refine ⟨_, List.mem_map.mpr ⟨_, hp, rfl⟩, List.mem_filter.mpr ⟨List.mem_cons_self .., ?_⟩⟩
      rw [Bool.and_eq_true, decide_eq_true_iff, decide_eq_true_iff]
      refine ⟨.inr rfl, ?_⟩
      have := r.2.1; simp only at this ⊢; omega
    · have r := ok.rng _ hp
      refine ⟨_, List.mem_map.mpr ⟨_, hp, rfl⟩, List.mem_filter.mpr ⟨List.mem_cons_of_mem _ (List.mem_singleton.mpr rfl), ?_⟩⟩
      rw [Bool.and_eq_true, decide_eq_true_iff, decide_eq_true_iff]
      refine ⟨.inl rfl, ?_⟩
      have := r.2.1; simp only at this ⊢; omega
theorem nodup_gath {w : Wn} (ok : WOk w) (h : Int) : (gath w h).Nodup := by
  unfold gath
  have asc := ok.asc
  have rng := ok.rng
  generalize w.E = E at asc rng
  induction E with
  | nil => exact List.nodup_nil
  | cons p E ih =>
    have pa := List.pairwise_cons.mp asc
    rw [List.map_cons, List.flatten_cons, List.nodup_append]
    have r := rng p (List.mem_cons_self ..)
    refine ⟨?_, ih pa.2 fun q hq => rng q (List.mem_cons_of_mem _ hq), ?_⟩
    · refine List.Nodup.sublist List.filter_sublist ?_
      have : p.1 ≠ p.2 := by omega
      simp [this]
    · intro a ha b hb e
      subst e
      obtain ⟨h1, h2⟩ := List.mem_filter.mp ha
      obtain ⟨l, hl, hb⟩ := List.mem_flatten.mp hb
      obtain ⟨q, hq, rfl⟩ := List.mem_map.mp hl
      obtain ⟨h3, h4⟩ := List.mem_filter.mp hb
      rw [Bool.and_eq_true, decide_eq_true_iff, decide_eq_true_iff] at h2 h4
      have rq := rng q (List.mem_cons_of_mem _ hq)
      have lt := pa.1 q hq
      unfold ltE at lt
      simp only [List.mem_cons, List.not_mem_nil, or_false] at h1 h3
      omega
theorem sort_gath {w : Wn} (ok : WOk w) (h : Int) : (gath w h).mergeSort leI = near w h := sort_asc (nodup_gath ok h) (asc_near w h) fun z => mem_gath ok
theorem near_ok {w : Wn} {h : Int} {z : Int} (hz : z ∈ near w h) : 0 ≤ z ∧ z < w.n := (mem_near.mp hz).1
theorem len_upto (n : Nat) : (upto n).length = n := by simp [upto]
theorem len_near (w : Wn) (h : Int) : (near w h).length ≤ w.n := by
  have := List.length_filter_le (fun o => joins w o h) (upto w.n)
  rw [len_upto] at this
  exact this
/-- a few ints below n -/
theorem len_lot {n : Nat} {l : List Int} (h : LotOk n l) : l.length ≤ n := by
  have : l = (upto n).filter (fun z => l.contains z) := asc_ext h.1 ((asc_upto n).filter _) fun z => by
    rw [List.mem_filter, mem_upto, List.contains_iff_mem]
    exact ⟨fun hz => ⟨h.2 z hz, hz⟩, fun hz => hz.2⟩
  rw [this]
  have := List.length_filter_le (fun z => l.contains z) (upto n)
  rw [len_upto] at this
  exact this
theorem len_E {w : Wn} (ok : WOk w) : w.E.length ≤ 100 := by
  have h1 : (w.E.map fun p => p.1 * 10 + p.2).Pairwise (· < ·) := by
    rw [List.pairwise_map]
    refine ok.asc.imp_of_mem fun {p q} hp hq h => ?_
    have rp := ok.rng p hp
    have rq := ok.rng q hq
    have := ok.hi
    unfold ltE at h
    omega
  have h2 : LotOk 100 (w.E.map fun p => p.1 * 10 + p.2) := ⟨h1, fun z hz => by
    obtain ⟨p, hp, rfl⟩ := List.mem_map.mp hz
    have rp := ok.rng p hp
    have := ok.hi
    omega⟩
  have := len_lot h2
  rw [List.length_map] at this
  exact this
end MA

set_option Elab.async false
set_option linter.all false
set_option maxRecDepth 100000
/-! SpecA: what the package's defs promise, at the laws' inputs -/
namespace FX
theorem isi1 : isiT "int" "int" = true := by decide
theorem isi2 : isiT "int" "bool" = false := by decide
theorem isi3 : isiT "int" "tuple" = false := by decide
theorem isi4 : isiT "int" "list" = false := by decide
theorem isi5 : isiT "bool" "int" = true := by decide
theorem isi6 : isiT "bool" "bool" = true := by decide
theorem isi7 : isiT "bool" "tuple" = false := by decide
theorem isi8 : isiT "bool" "list" = false := by decide
theorem isi9 : isiT "NoneType" "int" = false := by decide
theorem isi10 : isiT "NoneType" "bool" = false := by decide
theorem isi11 : isiT "NoneType" "tuple" = false := by decide
theorem isi12 : isiT "NoneType" "list" = false := by decide
theorem isi13 : isiT "str" "int" = false := by decide
theorem isi14 : isiT "str" "bool" = false := by decide
theorem isi15 : isiT "str" "tuple" = false := by decide
theorem isi16 : isiT "str" "list" = false := by decide
theorem isi17 : isiT "tuple" "int" = false := by decide
theorem isi18 : isiT "tuple" "bool" = false := by decide
theorem isi19 : isiT "tuple" "tuple" = true := by decide
theorem isi20 : isiT "tuple" "list" = false := by decide
theorem isi21 : isiT "list" "int" = false := by decide
theorem isi22 : isiT "list" "bool" = false := by decide
theorem isi23 : isiT "list" "tuple" = false := by decide
theorem isi24 : isiT "list" "list" = true := by decide
theorem x_w0 (w : MA.Wn) : ixD (MA.wD w) (.int 0) = some (.int w.n) := x_ixT0 _ _
theorem x_w1 (w : MA.Wn) : ixD (MA.wD w) (.int 1) = some (.tup (w.E.map MA.prE)) := x_ixT1 _ _ _
theorem x_ty (w : MA.Wn) : tyD (MA.wD w) = some "tuple" := rfl
theorem x_tyT (l : List Int) : tyD (tupI l) = some "tuple" := rfl
theorem x_truT (l : List Int) : truD (tupI l) = some (!l.isEmpty) := by cases l <;> rfl
theorem x_lenI (l : List Int) : lenF [tupI l] = some (.int l.length) := by
  show some (D.int ((l.map D.int).length : Nat)) = _
  rw [List.length_map]
theorem x_itI (l : List Int) : itemsD (tupI l) = some (l.map .int) := rfl
/-- all of bools -/
theorem bls_self : ∀ bs : List Bool, blsOf (bs.map D.bl) = some bs
  | [] => rfl
  | b :: bs => by
    show blsOf (D.bl b :: bs.map D.bl) = _
    rw [blsOf, bls_self bs]; rfl
theorem fm_some {α β : Type} (f : α → β) : ∀ l : List α, l.filterMap (fun a => some (f a)) = l.map f
  | [] => rfl
  | a :: l => by rw [List.filterMap_cons, List.map_cons, fm_some f l]
theorem allF_map {α : Type} (f : α → Bool) (l : List α) : allF [.lst (l.map fun a => D.bl (f a))] = some (.bl (l.all f)) := by
  have : l.map (fun a => D.bl (f a)) = (l.map f).map D.bl := by rw [List.map_map]; rfl
  rw [this]
  show (blsOf ((l.map f).map D.bl)).map (fun bs => D.bl (bs.all id)) = _
  rw [bls_self]
  simp [List.all_map, Function.comp_def]
theorem anyF_map {α : Type} (f : α → Bool) (l : List α) : anyF [.lst (l.map fun a => D.bl (f a))] = some (.bl (l.any f)) := by
  have : l.map (fun a => D.bl (f a)) = (l.map f).map D.bl := by rw [List.map_map]; rfl
  rw [this]
  show (blsOf ((l.map f).map D.bl)).map (fun bs => D.bl (bs.any id)) = _
  rw [bls_self]
  simp [List.any_map, Function.comp_def]
theorem sumF_map {α : Type} (f : α → Int) (l : List α) : sumF [.lst (l.map fun a => D.int (f a))] = some (.int (l.map f).sum) := by
  have : l.map (fun a => D.int (f a)) = (l.map f).map D.int := by rw [List.map_map]; rfl
  rw [this]
  show (intsOf ((l.map f).map D.int)).map (fun ns => D.int ns.sum) = _
  rw [ints_self]; rfl
theorem lexLt_eq : ∀ a b : List Int, HT.lexLt a b = decide (a < b)
  | [], [] => by simp [HT.lexLt]
  | [], b :: bs => by simp [HT.lexLt]
  | a :: as, [] => by simp [HT.lexLt]
  | a :: as, b :: bs => by
    rw [HT.lexLt, lexLt_eq as bs]
    by_cases h : a = b
    · subst h; simp [List.cons_lt_cons_iff]
    · simp [List.cons_lt_cons_iff, h]
theorem ltD_tup (a b : List Int) : ltD (tupI a) (tupI b) = some (.bl (decide (a < b))) := by
  show (intsOf (a.map D.int)).bind (fun ns => (intsOf (b.map D.int)).map fun ms => D.bl (HT.lexLt ns ms)) = _
  rw [ints_self, ints_self, ← lexLt_eq]; rfl
theorem ltD_int (a b : Int) : ltD (.int a) (.int b) = some (.bl (decide (a < b))) := rfl
theorem eqDs_ints : ∀ a b : List Int, eqDs (a.map D.int) (b.map D.int) = decide (a = b)
  | [], [] => by simp [eqDs]
  | [], _ :: _ => by simp [eqDs]
  | _ :: _, [] => by simp [eqDs]
  | x :: a, y :: b => by
    show eqDs (.int x :: a.map .int) (.int y :: b.map .int) = _
    rw [eqDs, eqDs_ints a b, eqD]
    by_cases h : x = y <;> by_cases h' : a = b <;> simp [h, h']
theorem eqD_tupI (a b : List Int) : eqD (tupI a) (tupI b) = decide (a = b) := eqDs_ints a b
theorem eqDs_tups : ∀ a b : List (List Int), eqDs (a.map tupI) (b.map tupI) = decide (a = b)
  | [], [] => by simp [eqDs]
  | [], _ :: _ => by simp [eqDs]
  | _ :: _, [] => by simp [eqDs]
  | x :: a, y :: b => by
    show eqDs (tupI x :: a.map tupI) (tupI y :: b.map tupI) = _
    rw [eqDs, eqDs_tups a b, eqD_tupI]
    by_cases h : x = y <;> by_cases h' : a = b <;> simp [h, h']
theorem pl_tupI (n : Nat) (l : List Int) : plD (n + 1) (tupI l) = true := plDs_ints l
theorem inOp_ints (x : Int) (l : List Int) : inOp (.int x) (tupI l) = some (.bl (l.contains x)) := by
  unfold inOp tupI
  simp only []
  rw [if_pos ⟨pl_int _ _, plDs_ints l⟩, List.any_map]
  congr 2
  rw [List.contains_eq_any_beq]
  congr 1
  funext z
  show eqD (.int z) (.int x) = (x == z)
  rw [eqD]
  by_cases h : z = x
  · simp [h]
  · have h' : ¬ x = z := fun e => h e.symm
    rw [beq_false_of_ne h, beq_false_of_ne h']
theorem notInOp_ints (x : Int) (l : List Int) : notInOp (.int x) (tupI l) = some (.bl (!l.contains x)) := by
  have h := inOp_ints x l
  unfold inOp tupI at h
  unfold notInOp tupI
  simp only [] at h ⊢
  rw [if_pos ⟨pl_int _ _, plDs_ints l⟩] at h ⊢
  injection h with h
  injection h with h
  rw [h]
theorem inOp_tups (x : List Int) (l : List (List Int)) : inOp (tupI x) (.tup (l.map tupI)) = some (.bl (l.contains x)) := by
  unfold inOp
  simp only []
  rw [if_pos ⟨pl_tupI _ _, plDs_tups l⟩, List.any_map]
  congr 2
  rw [List.contains_eq_any_beq]
  congr 1
  funext z
  show eqD (tupI z) (tupI x) = (x == z)
  rw [eqD_tupI]
  by_cases h : z = x
  · simp [h]
  · have h' : ¬ x = z := fun e => h e.symm
    simp [h, h']
theorem inOp_tupsL (x : List Int) (l : List (List Int)) : inOp (tupI x) (.lst (l.map tupI)) = some (.bl (l.contains x)) := by
  have h := inOp_tups x l
  unfold inOp at h ⊢
  exact h
theorem atI_nat' {α : Type} {xs : List α} {i : Int} (h0 : 0 ≤ i) (h1 : i < xs.length) : L2.atI xs i = xs[i.toNat]? := by
  unfold L2.atI L2.ixN
  rw [if_pos h0, if_pos h1]; rfl
end FX
namespace FX
section
variable {κ : Type} [DecidableEq κ]
theorem put_mem (kvs : List (κ × D)) (k : κ) (d : D) (z : κ) : z ∈ (asPut kvs k d).map (·.1) ↔ z ∈ kvs.map (·.1) ∨ z = k := by
  rw [asPut_keys]
  by_cases h : (asGet kvs k).isSome = true
  · rw [if_pos h]
    rw [asGet_isSome] at h
    exact ⟨.inl, fun q => q.elim id fun q => q ▸ h⟩
  · rw [if_neg h, List.mem_append, List.mem_singleton]
theorem put_nodup {kvs : List (κ × D)} {k : κ} {d : D} (h : (kvs.map (·.1)).Nodup) : ((asPut kvs k d).map (·.1)).Nodup := by
  rw [asPut_keys]
  by_cases q : (asGet kvs k).isSome = true
  · rw [if_pos q]; exact h
  · rw [if_neg q, List.nodup_append]
    refine ⟨h, by simp, fun a ha b hb e => ?_⟩
    rw [List.mem_singleton] at hb
    subst hb; subst e
    exact q ((asGet_isSome _ _).mpr ha)
end
end FX
def FX.intsOfT : FX.D → Option (List Int)
  | .tup ds => FX.intsOf ds
  | _ => none
namespace MA
open FX
theorem keys_small {n : Nat} {ks : List Int} (hn : ks.Nodup) (h : ∀ z ∈ ks, 0 ≤ z ∧ z < n) : ks.length ≤ n := by
  have : LotOk n (ks.mergeSort leI) := ⟨asc_of_sorted (sortI_sorted ks) ((List.mergeSort_perm _ _).nodup_iff.mpr hn), fun z hz => h z (List.mem_mergeSort.mp hz)⟩
  have := len_lot this
  rwa [List.length_mergeSort] at this
def isFromD (d : D) (lo hi : Int) : Bool := match d with
  | .int i => decide (lo ≤ i) && decide (i ≤ hi)
  | _ => false
def incrD : List D → Bool
  | .int a :: .int b :: r => decide (a < b) && incrD (.int b :: r)
  | _ => true
def goodLotD (n : Nat) (d : D) : Bool := match d with
  | .tup es => es.all (fun e => isFromD e 0 ((n : Int) - 1)) && incrD es
  | _ => false
def fIsFrom : F0 := fun ds k _ => ∃ d lo hi, ds = [d, .int lo, .int hi] ∧ (tyD d).isSome = true ∧ k (.bl (isFromD d lo hi))
def fIsPassage : F0 := fun ds k _ => ∃ (n : Nat) (p : Int × Int), ds = [.int n, prE p] ∧ (0 ≤ p.1 ∧ p.1 < p.2 ∧ p.2 < n) ∧ k (.bl true)
def fIsWarren : F0 := fun ds k _ => ∃ w, ds = [wD w] ∧ WOk w ∧ k (.bl true)
def fGoodLot : F0 := fun ds k _ => ∃ w d, ds = [wD w, d] ∧ plD 40 d = true ∧ (match d with | .tup es => es.length ≤ 1000 | _ => True) ∧ k (.bl (goodLotD w.n d))
def fLookWarren : F0 := fun ds k _ => ∃ w, ds = [wD w] ∧ WOk w ∧ k .non
def fLookLookers : F0 := fun ds k _ => ∃ m : Int, ds = [.int m] ∧ (1 ≤ m ∧ m ≤ 4) ∧ k .non
def fLookLot : F0 := fun ds k _ => ∃ w l, ds = [wD w, tupI l] ∧ LotOk w.n l ∧ WOk w ∧ k .non
def fNextTo : F0 := fun ds k _ => ∃ w h, ds = [wD w, .int h] ∧ WOk w ∧ k (.lst ((near w h).map .int))
def fLater : F0 := fun ds k _ => ∃ w S L, ds = [wD w, tupI S, tupI L] ∧ WOk w ∧ LotOk w.n S ∧ k (tupI (later w S L))
def fLookAll : F0 := fun ds k _ => ∃ w m l, ds = [wD w, .int m, tupI l] ∧ WOk w ∧ (1 ≤ m ∧ m ≤ 4) ∧ LotOk w.n l ∧ k .non
def lotsOf (n : Nat) (m : Int) (es : List D) : Bool := es.all fun e => goodLotD n e && (match e with | .tup ds => decide ((ds.length : Int) ≤ m) | _ => false)
def isPlanD (n : Nat) (m : Int) (d : D) : Bool := match d with
  | .lst es => decide (es.length ≤ 1023) && lotsOf n m es
  | _ => false
/-- a thing as it is handed to is_plan here -/
def PlanIn (d : D) : Prop := plD 41 d = true ∧ (match d with | .lst es => es.length ≤ 100000 ∧ ∀ e ∈ es, (match e with | .tup ds => ds.length ≤ 1000 | _ => True) | _ => True)
def fIsPlan : F0 := fun ds k _ => ∃ w m d, ds = [wD w, .int m, d] ∧ PlanIn d ∧ k (.bl (isPlanD w.n m d))
def surelyD (w : Wn) (m : Int) (l : List Int) (d : D) : Bool := isPlanD w.n m d && (match d with
  | .lst es => (match tupsOf es with | some ls => decide (ls.foldl (later w) l = []) | none => false)
  | _ => false)
def fSurely : F0 := fun ds k _ => ∃ w m l d, ds = [wD w, .int m, tupI l, d] ∧ WOk w ∧ (1 ≤ m ∧ m ≤ 4) ∧ LotOk w.n l ∧ PlanIn d ∧ k (.bl (surelyD w m l d))
end MA
namespace MA
open FX
/-! the laws' bags -/
def BagOk (x y : Int) : Prop := 0 ≤ x ∧ 0 ≤ y ∧ y < 2147483647
def bagD (x y : Int) : D := .lst [.int x, .int y]
def fBag : F0 := fun ds k _ => ∃ (ns : List Int) (j : Nat), ds = [.scr ns, .int j] ∧ j < 1000 ∧ ∀ x y, BagOk x y → k (bagD x y)
def fTake : F1 := fun c ds k _ => ∃ x y n, c = bagD x y ∧ BagOk x y ∧ ds = [.int n] ∧ (1 ≤ n ∧ n < 1000000) ∧ ∀ r x' y', 0 ≤ r → r < n → BagOk x' y' → k (.int r) (bagD x' y')
def fOf : F1 := fun c ds k _ => ∃ x y xs, c = bagD x y ∧ BagOk x y ∧ (ds = [.lst xs] ∨ ds = [.tup xs]) ∧ xs ≠ [] ∧ xs.length < 1000000 ∧ ∀ d x' y', d ∈ xs → BagOk x' y' → k d (bagD x' y')
def fLawWarren : F1 := fun c ds k _ => ∃ x y most, c = bagD x y ∧ BagOk x y ∧ ds = [.int most] ∧ (2 ≤ most ∧ most ≤ 10) ∧ ∀ w x' y', WOk w → (w.n : Int) ≤ most → BagOk x' y' → k (wD w) (bagD x' y')
def fLawNear : F0 := fun ds k _ => ∃ w h, ds = [wD w, .int h] ∧ WOk w ∧ k (.lst ((near w h).map .int))
def fLawLater : F0 := fun ds k _ => ∃ w S L, ds = [wD w, tupI S, tupI L] ∧ WOk w ∧ LotOk w.n S ∧ k (tupI (later w S L))
/-- all lots of at most m holes, as the laws build them, sorted -/
def grow (m : Int) (found : List (List Int)) (h : Int) : List (List Int) := found ++ (found.filter fun l => decide ((l.length : Int) < m)).map fun l => l ++ [h]
def lotsRaw (n : Nat) (m : Int) : List (List Int) := (upto n).foldl (grow m) [[]]
def lots (n : Nat) (m : Int) : List (List Int) := (lotsRaw n m).mergeSort leR
def fLawLots : F0 := fun ds k _ => ∃ (n : Nat) (m : Int), ds = [.int n, .int m] ∧ n ≤ 10 ∧ k (.lst ((lots n m).map tupI))
end MA

set_option Elab.async false
set_option linter.all false
set_option maxRecDepth 100000
/-! FxN: name = [..] on one line over an own dict, or reading own things; {(): 0} -/
namespace FX
open PySem PySem.Spec PyProof.Rows L2
theorem sim_purF {K : PySem.W.Frag} {W : HW} {t : DE} {σ : L2.St} {H : Hp} {Q : VK} (h : upF K W (dPurF t) σ H Q) : upF K W t σ H Q := by
  obtain ⟨C, M, env, k, x, R, h, hk, hx⟩ := h
  refine ⟨C, _, _, _, _, R.seen, h, fun d e1 p v H1 M1 h1 R1 k1 g1 hp c => ?_, fun e env' H' M' xe _ _ _ => xe.elim⟩
  obtain ⟨i, kd⟩ := h1
  have R2 := R.add k1.toSame hp c.mut
  refine hk d env p v H1 M kd R2 (.same k1.toSame) (.refl _ _) hp ?_
  cases d with
  | lst ds =>
    obtain ⟨e, vs, h, r⟩ := c
    refine ⟨e, vs, h, Reps.imm (fun a z => ?_) ds vs i r⟩
    rcases z with z | z
    · exact .inl (.inl z)
    · exact .inr (R2.mm a z)
  | non | bl _ | int _ | str _ | tup _ | dI _ | dT _ | scr _ | obj _ _ => cases i
section
variable {X : Cx} {W : HW} {fr : Bool} {st : Stmt} {i : Nat} {T : TE} {t : DE}
theorem ds_asgT (h : PS X st (tAsg T (gName i))) (c : ∀ σ H Q, up X.K W t σ H Q → T σ H Q) : PS X st (upS X.K W fr (sAsg i t)) := by
  refine ps_conv h fun D σ H h => ?_
  obtain ⟨C, M, env, k, R, h, hn, hr, hx, _⟩ := h
  exact c _ _ _ ⟨C, M, env, _, _, R, h, fun d e1 v H1 M1 h1 R1 k1 g1 r1 => hn _ _ H1 M1 h1 (R1.storeF r1) k1 g1, fun e env' H' M' xe R' k' g' => hx e env' σ H' M' xe R' k' g'⟩
theorem ds_asgK (h : PS X st (tAsg T (gName i))) (c : ∀ σ H Q, up X.K W t σ H Q → T σ H Q ∨ tLockE T σ H Q) : PS X st (upS X.K W fr (sAsg i t)) := by
  refine ps_conv (ps_orC h) fun D σ H h => ?_
  obtain ⟨C, M, env, k, R, h, hn, hr, hx, _⟩ := h
  exact c σ H (fun x H1 => gName i x σ H1 D.nx) ⟨C, M, env, _, _, R, h, fun d e1 v H1 M1 h1 R1 k1 g1 r1 => hn _ _ H1 M1 h1 (R1.storeF r1) k1 g1, fun e env' H' M' xe R' k' g' => hx e env' σ H' M' xe R' k' g'⟩
end
section
variable {X : Cx} {elt tg iter c : Expr} {scope : Scope} {own : List (Str × Nat)} {pos : Pos} {src : DI} {g : DG} {tt : DT} {te : DE} {ifs : List Expr} {fr : Bool} {i j : Nat} {y z : Str} {py pz spos : Pos}
/-- .. that reads own things -/
theorem ds_setLcP {W : HW} (vs : List Nat) (hv : own.map (·.2) = vs) (hc : X.calm = true) (hN : X.N.Nodup) (hy : X.N[i]? = some y) (hyl : X.env.scope.names.lookup y = some .local)
    (hsw : swapsWith (.ListComp elt [⟨tg, iter, ifs, 0⟩] scope pos) (some (.Name y py)) spos.line X.env = pure true) (hi : PI X tg iter (upI X.K W src)) (ok : BlkOk X.N X.env.scope scope own)
    (hg : ∀ (s : Shared) (H : Hp) (C : Addr) (cl : List (Str × Addr)) (fp : List Addr), PG (X.blk s H scope (compEnvC scope cl C X.env) fp) tg (upG X.K vs g)) (ht : ∀ (s : Shared) (H : Hp) (C : Addr) (cl : List (Str × Addr)) (fp : List Addr), PTs (X.blk s H scope (compEnvC scope cl C X.env) fp) ifs (upT X.K W0 tt))
    (he : ∀ (s : Shared) (H : Hp) (C : Addr) (cl : List (Str × Addr)) (fp : List Addr), PE (X.blk s H scope (compEnvC scope cl C X.env) fp) elt (up X.K W0 te)) (hs : ∀ x, foldedSetIterable iter X.env x = pure x := by intro _; rfl) :
    PS X (.Assign [.Name y py] (.ListComp elt [⟨tg, iter, ifs, 0⟩] scope pos) spos) (upS X.K W fr (sAsg i (dPurF (dLc src g tt te vs)))) := by
  subst hv
  exact ds_asgT (ps_setLc hc hN hy hyl hsw hi ok hg ht he hs) fun _ _ _ h => sim_lc (sim_purF (up_of_upF h))
/-- .. over a dict -/
theorem ds_setLcK (vs : List Nat) (hv : own.map (·.2) = vs) (hc : X.calm = true) (hN : X.N.Nodup) (hy : X.N[i]? = some y) (hyl : X.env.scope.names.lookup y = some .local)
    (hsw : swapsWith (.ListComp elt [⟨tg, .Name z pz, ifs, 0⟩] scope pos) (some (.Name y py)) spos.line X.env = pure true) (hz : PE X (.Name z pz) (tVar j)) (ok : BlkOk X.N X.env.scope scope own)
    (hg : ∀ (s : Shared) (H : Hp) (C : Addr) (cl : List (Str × Addr)) (fp : List Addr), PG (X.blk s H scope (compEnvC scope cl C X.env) fp) tg (upG X.K vs g)) (ht : ∀ (s : Shared) (H : Hp) (C : Addr) (cl : List (Str × Addr)) (fp : List Addr), PTs (X.blk s H scope (compEnvC scope cl C X.env) fp) ifs (upT X.K W0 tt))
    (he : ∀ (s : Shared) (H : Hp) (C : Addr) (cl : List (Str × Addr)) (fp : List Addr), PE (X.blk s H scope (compEnvC scope cl C X.env) fp) elt (up X.K W0 te)) (hs : ∀ x, foldedSetIterable (.Name z pz) X.env x = pure x := by intro _; rfl) :
    PS X (.Assign [.Name y py] (.ListComp elt [⟨tg, .Name z pz, ifs, 0⟩] scope pos) spos) (upS X.K W0 fr (sAsg i (dPurF (dLcK j g tt te vs)))) := by
  subst hv
  exact ds_asgK (ps_setLc hc hN hy hyl hsw (pi_keys hz) ok hg ht he hs) fun σ H Q h => sim_lockE (i := j) (t := dLc (diKeys j) g tt te _) (fun σ H Q hl h => upF_lcK hl h) (fun _ _ _ z => z) (sim_purF (up_of_upF h))
end
/-! ### {k: v}, k a tuple -/
def tDispT1 (tk tv : TE) : TE := fun σ H Q => ∀ p, H p = none → tk σ (upd H p (.dT [])) fun x H1 => tv σ H1 fun y H2 => H2 p = some (.dT []) ∧ ∃ (b : Addr) (k : List Key), x = .ref b ∧ H2 b = some (.tup (k.map kV)) ∧ Q (.ref p) (upd H2 p (.dT [(k, y)]))
theorem pe_dispT1 {X : Cx} {pos : Pos} {k v : Expr} {tk tv : TE} (hu : X.A.units + 1 < cLine) (hk : PE X k tk) (hv : PE X v tv) : PE X (.Dict [some k] [v] pos) (tDispT1 tk tv) := by
  refine ⟨fun pins s σ H Q I q => ?_⟩
  have hn := I.hok.fresh (Nat.le_refl s.heap.objs.size)
  have I1 := I.laid (a := s.heap.objs.size) (o := .dT []) (h' := s.heap.push { cls := .type "dict", data := .dict #[] }) (t' := s.toks) (fun _ _ q => Heap.get?_push_of_some _ q) (Nat.le_refl _) (dt_empty s.heap I.big)
  have hlen := pairTrees_length [some k] [v] X.env pos rfl rfl
  have h0 : pairTrees [some k] [v] X.env pos ≠ [] := fun e => by rw [e] at hlen; cases hlen
  rw [arm_eval_Dict, zip_pairTrees [some k] [v] X.env pos rfl rfl, dictDisplay_pairs _ h0 (by rw [hlen]; simp)]
  refine wpAny_bind (wpAny_standAt (wpAny_bind (wpAny_subDictH (knd := tupleKind (mixKind X.prog X.w)) (Q := fun d s' => wpAny (model X.prog X.w) X.A (pure (Value.ref d)) (EP X pins σ Q) X.xe s') (show X.A.units < cLine by omega) (by rw [hlen]; simp) ?_)))
  refine pairTrees_cons_walk (thn (hk.run pins _ σ _ _ I1 (q _ hn)) fun u s1 ⟨x, H1, I2, rx, q1⟩ => thn (hv.run pins s1 σ H1 _ I2 q1) fun w2 s2 ⟨y, H2, I3, ry, q2⟩ => pairTrees_nil_walk ?_)
  obtain ⟨hp, b, kk, rfl, hb, q3⟩ := q2
  cases rx
  obtain ⟨z, hd, xs, rel, dd⟩ := dt_of I3.hok hp
  cases rel
  refine ⟨[(kk, b, w2)], ⟨rfl, rfl, key_of I3.hok hb, trivial⟩, dd, fun h' tk2 dd' hs => wpAny_pure ⟨.ref s.heap.objs.size, _, ?_, rfl, q3⟩⟩
  have e : storedAllH ([] : List (List Key × Addr × Value)) [(kk, b, w2)] = [(kk, b, w2)] := storedAllH_nil_of_nodup _ (by simp)
  rw [e] at dd'
  obtain ⟨o, es, ep, hq, h2, h3, h4, _, h5⟩ := dd'
  have I4 := d_write I3 (t' := tk2) (by rw [hp]; exact True.intro) hs ⟨o, hq⟩ (show ObjOk X.prog X.w _ _ _ (.dT [(kk, y)]) from ⟨by rw [sizeLine_eq]; simp, hd, [(kk, b, w2)], .cons ⟨rfl, ?_, ry⟩ .nil, o, es, ep, hq, h2, h3, h4, h5⟩)
  · exact I4
  · rw [upd_ne (ne_of hb hp (fun z => nomatch z))]
    exact hb
def dDict1 (tk tv : DE) : DE := fun env k x => tk env (fun kd e => tv e (fun vd e2 => ∃ ns, kd = tupI ns ∧ k (.dT [(ns, vd)]) e2) x) x
theorem de_dict1 {X : Cx} {W : HW} {pos : Pos} {k v : Expr} {tk tv : DE} (hu : X.A.units + 1 < cLine) (hk : PE X k (up X.K W tk)) (hv : PE X v (up X.K W tv)) (hW : ∀ e H H', W e H → W e H') : PE X (.Dict [some k] [v] pos) (upF X.K W (dDict1 tk tv)) := by
  refine pe_conv (pe_dispT1 hu hk hv) fun σ H Q h => ?_
  obtain ⟨C, M, env, kk, x, R, h, hkk, hx⟩ := h
  intro p hp
  have R0 : Rel X.K (C.add p) M env σ (upd H p (.dT [])) := R.add (same_new hp) hp (by rw [upd_same]; trivial)
  have s0 : Same H (upd H p (.dT [])) := same_new hp
  have np : ∀ a o, H a = some o → a ≠ p := fun a o e z => by rw [z, hp] at e; cases e
  have kU : ∀ {M : AS} {H' : Hp}, Keep M (upd H p (.dT [])) H' → Keep M H H' := fun {M H'} k => ⟨fun a o e n => k.kp a o (by rw [upd_ne (np a o e)]; exact e) n, fun a n => k.th a (by
    cases e : H a with
    | none => exact absurd e n
    | some o => rw [upd_ne (np a o e), e]; simp)⟩
  have gU : ∀ {M' : AS}, Grow M (upd H p (.dT [])) M' → Grow M H M' := fun {M'} g a z => (g a z).elim .inl fun q => .inr (by
    by_cases e : a = p
    · rw [e]; exact hp
    · rw [upd_ne e] at q; exact q)
  refine ⟨C.add p, M, env, _, x, R0, h, fun kd e1 va H1 M1 h1 R1 k1 g1 r1 => ?_, fun e env' H' M' xe R' k' g' => hx e env' H' M' xe R'.drop (kU k') (gU g')⟩
  refine ⟨C.add p, M1, e1, _, x, R1, h1, fun vd e2 vb H2 M2 h2 R2 k2 g2 r2 => ?_, fun e env' H' M' xe R' k' g' => hx e env' H' M' xe R'.drop (kU (k1.trans g1 k')) (gU (Grow.trans k1 g1 g'))⟩
  obtain ⟨ns, rfl, kd⟩ := h2
  have k12 := k1.trans g1 k2
  have g12 := Grow.trans k1 g1 g2
  have hp2 : H2 p = some (.dT []) := k12.kp p _ upd_same (R0.gm p (.inr rfl))
  obtain ⟨b, vs, rfl, nb, hb, hr⟩ := k2.rep g2 r1
  have := Reps.ints.mp hr
  subst this
  refine ⟨hp2, b, kT ns, rfl, ?_, ?_⟩
  · rw [hb]
    have e2 : (kT ns).map kV = ns.map V.int := by unfold kT; rw [List.map_map]; rfl
    rw [e2]
  · refine hkk _ e2 p (.ref p) _ M2 kd (R2.touch (.inr rfl) trivial) ?_ (gU g12) hp ⟨rfl, [(kT ns, vb)], upd_same, vb, [], rfl, Rep.mono (fun a o e n => ?_) (fun _ _ z => z) _ _ r2, rfl⟩
    · refine ⟨fun a o e n => ?_, fun a n => ?_⟩
      · rw [upd_ne (np a o e)]
        exact (kU k12).kp a o e n
      · by_cases z : a = p
        · rw [z, upd_same]; simp
        · rw [upd_ne z]; exact (kU k12).th a n
    · rw [upd_ne fun z => n (.inl (.inr z))]
      exact e
end FX

set_option Elab.async false
set_option linter.all false
set_option maxRecDepth 100000
set_option maxHeartbeats 4000000
/-! FxO: t[::-1] of a tuple; set(t) of a tuple of tuples -/
namespace FX
open PySem PySem.Spec PyProof.Rows L2
section
variable {prog : Program} {w : World} {A : Around} {E : Value → Shared → Prop} {s : Shared}
theorem places_back (n : Nat) : Builtin.Slice.slicePlaces ((n : Int) - 1) (-1) (-1) = n := by
  unfold Builtin.Slice.slicePlaces
  have c : ¬ ((-1 : Int) > 0) := by decide
  have e : (- -1 : Int) = 1 := by decide
  simp only [c, if_false, e, Int.ediv_one]
  split <;> omega
theorem fm_congr {α β : Type} {f g : α → Option β} : ∀ l : List α, (∀ a ∈ l, f a = g a) → l.filterMap f = l.filterMap g
  | [], _ => rfl
  | a :: l, h => by rw [List.filterMap_cons, List.filterMap_cons, h a (List.mem_cons_self ..), fm_congr l fun b hb => h b (List.mem_cons_of_mem _ hb)]
theorem back_pick (xs : Array Value) : ((List.range xs.size).filterMap fun (m : Nat) => xs[(((xs.size : Int) - 1) + (m : Int) * (-1)).toNat]?).toArray = xs.toList.reverse.toArray := by
  have h := PySem.W.krv_all xs
  have g : (List.range xs.size).filterMap (fun (m : Nat) => xs[(((xs.size : Int) - 1) + (m : Int) * (-1)).toNat]?) = ((List.range xs.size).map fun k => xs.size - 1 - k).filterMap (xs[·]?) := by
    rw [List.filterMap_map]
    refine fm_congr _ fun m hm => ?_
    have hm := List.mem_range.mp hm
    have : (((xs.size : Int) - 1) + (m : Int) * (-1)).toNat = xs.size - 1 - m := by omega
    rw [this] <;> rfl
  rw [g, PySem.W.krv_range, List.filterMap_reverse, h]
theorem applied_back {sl : Addr} {vs : Value} {n : Nat} {Q : Int × Int × Nat → Shared → Prop} (hs : s.heap.IsSliceOf sl .none .none vs) (ps : IsPart vs (some (-1))) (h : Q ((n : Int) - 1, -1, n) s) :
    wpAny (model prog w) A (Builtin.Slice.sliceApplied (.ref sl) (pure (n : Int))) Q E s := by
  obtain ⟨o, ho, hc, hd⟩ := id hs
  unfold Builtin.Slice.sliceApplied Builtin.Slice.sliceFields
  refine wpAny_bind (wpAny_bind (wpAny_field ho hd (x := .none) rfl (wpAny_bind (wpAny_field ho hd (x := .none) rfl (wpAny_bind (wpAny_field ho hd (x := vs) rfl (wpAny_pure ?_)))))))
  refine wpAny_bind (HT.slicePart_ ps ?_)
  show wpAny _ _ (if ((-1 : Int) == 0) = true then _ else _) _ _ s
  rw [if_neg (by decide)]
  refine wpAny_bind (HT.slicePart_ .none (wpAny_bind (HT.slicePart_ .none (wpAny_bind (wpAny_pure ?_)))))
  show wpAny _ _ (pure ((n : Int) - 1, (-1 : Int), Builtin.Slice.slicePlaces ((n : Int) - 1) (-1) (-1))) _ _ s
  rw [places_back]
  exact wpAny_pure h
theorem getItem_back {t sl : Addr} {items : Array Value} {vs : Value} {Q : Value → Shared → Prop} (ht : IsTup s.heap t items) (hs : s.heap.IsSliceOf sl .none .none vs) (ps : IsPart vs (some (-1)))
    (h : Q (.ref s.heap.objs.size) { s with heap := s.heap.push { cls := .type "tuple", data := .seq items.toList.reverse.toArray } }) (hz : items.size ≤ sizeLine) : wpAny (model prog w) A (getItem (.ref t) (.ref sl)) Q E s := by
  have hk : sizeOk (.seq items.toList.reverse.toArray) := by
    show items.toList.reverse.toArray.size ≤ sizeLine
    rw [List.size_toArray, List.length_reverse, Array.length_toList]
    exact hz
  obtain ⟨o, ho, hc, hd⟩ := id hs
  have hT : s.TypeIs (.ref sl) "slice" := ⟨o, ho, hc⟩
  unfold getItem
  try with_reducible refine wpAny_holding ?_
  first | refine wpAny_bind (wpAny_pure ?_) | skip
  refine wpAny_bind (wpAny_sequenceKey ht.typeIs (by decide) ?_)
  refine wpAny_bind (wpAny_callSpecial?_slot (name := Str.ofString "__getitem__") ht.typeIs PyProof.Rows.slot_tuple_getitem (wpAny_call_entry PyProof.Rows.slot_tuple_getitem ht.typeIs entry_tuple_getitem ?_ (args_tuple_getitem _ _)))
  show wpAny _ _ (Builtin.Tuple.tupleItemsOf (.ref t) >>= _) _ _ s
  refine wpAny_bind (tupleItemsOf_ ht (wpAny_bind (wpAny_typeOf hT ?_)))
  rw [if_pos (by decide)]
  refine wpAny_bind (applied_back hs ps ?_)
  have no : ¬ ((((items.size : Int) - 1) == 0 && (-1 : Int) == 1 && items.size == items.size) = true) := by
    have : ((-1 : Int) == 1) = false := by decide
    rw [this, Bool.and_false, Bool.false_and]
    exact Bool.false_ne_true
  show wpAny _ _ (if (((items.size : Int) - 1) == 0 && (-1 : Int) == 1 && items.size == items.size) = true then _ else _) _ _ s
  rw [if_neg no, back_pick]
  first
    | exact wpAny_bind (m := Builtin.Tuple.tupleExact _) (wpAny_newObj_type (wpAny_pure ⟨_, rfl, wpAny_pure h⟩) hk)
    | exact wpAny_bind (m := Builtin.Tuple.tupleExact _) (wpAny_newObj_type (wpAny_bind (wpAny_pure (wpAny_pure ⟨_, rfl, wpAny_pure h⟩))) hk)
    | exact wpAny_bind (wpAny_bind (m := Builtin.Tuple.tupleExact _) (wpAny_newObj_type (wpAny_pure (wpAny_pure ⟨_, rfl, wpAny_pure h⟩)) hk))
    | exact wpAny_bind (wpAny_bind (m := Builtin.Tuple.tupleExact _) (wpAny_newObj_type (wpAny_pure ⟨_, rfl, wpAny_pure h⟩) hk))
end
def tBack (K : PySem.W.Frag) (te : TE) : TE := fun σ H Q => te σ H fun x H1 => ∃ a xs, x = .ref a ∧ SqT K H1 a xs ∧ ∀ p, H1 p = none → Q (.ref p) (upd H1 p (.tup xs.reverse))
/-- t[::-1] -/
def dBack (t : DE) : DE := fun env k x => t env (fun d e => ∃ ds, d = .tup ds ∧ k (.tup ds.reverse) e) x
section
variable {X : Cx} {W : HW} {e : Expr} {n : Nat} {p1 p2 p3 pos : Pos} {te : TE} {t : DE}
theorem pe_back (he : PE X e te) : PE X (.Subscript e (.Slice none none (some (.UnaryOp .USub (.Constant (.int 1) n p1) p2)) p3) pos) (tBack X.K te) := by
  refine ⟨fun pins s σ H Q I h => Subscript_ (thn (he.run pins s σ H _ I h) fun v s1 ⟨x, H1, J1, r1, a, xs, ex, hx, q⟩ => ?_)⟩
  subst ex
  cases r1
  have hst : PO X (some (.UnaryOp .USub (.Constant (.int 1) n p1) p2)) (tPart (tUn (rU fun i => .int (-i)) (tC (.int 1)))) := po_some (pe_un un_neg pe_int)
  refine wpAny_Slice (thn (po_none.run pins s1 σ H1 (fun o G => o = none ∧ G = H1) J1 ⟨rfl, rfl⟩) fun vl s2 ⟨l, H2, J2, pl, el, e2⟩ => ?_)
  subst el e2
  refine thn (po_none.run pins s2 σ H2 (fun o G => o = none ∧ G = H2) J2 ⟨rfl, rfl⟩) fun vu s3 ⟨u, H3, J3, pu, eu, e3⟩ => ?_
  subst eu e3
  refine thn (hst.run pins s3 σ H3 (fun o G => o = some (-1) ∧ G = H3) J3 ⟨1, rfl, -1, rfl, rfl, rfl⟩) fun vs s4 ⟨o, H4, J4, ps, eo, e4⟩ => ?_
  subst eo e4
  cases pl
  cases pu
  have J : Inv X pins σ H4 { s4 with heap := s4.heap.push { cls := .type "slice", data := .fields #[.none, .none, vs] } } := J4.kept (t' := s4.toks) fun b ob z => Heap.get?_push_of_some _ z
  obtain ⟨its, r, ht, hz⟩ := J.tuple hx
  have hlen := r.length
  show wpAny (model X.prog X.w) X.A (subscriptTail e (.Slice none none (some (.UnaryOp .USub (.Constant (.int 1) n p1) p2)) p3) (.ref a) (.ref s4.heap.objs.size)) (EP X pins σ Q) X.xe { s4 with heap := s4.heap.push { cls := .type "slice", data := .fields #[.none, .none, vs] } }
  refine tail_any (ops := [.ref a, .ref s4.heap.objs.size]) ht.typeIs PyProof.Rows.slot_tuple_getitem.lookup ?_ (by with_unfolding_all rfl)
  refine getItem_back ht (Heap.IsSliceOf.new _ .none .none vs) ps ?_ (by rw [List.size_toArray]; omega)
  exact ⟨.ref _, _, J.laid (t' := s4.toks) (o := .tup xs.reverse) (fun b ob z => Heap.get?_push_of_some _ z) (Nat.le_refl _) ⟨by rw [List.length_reverse]; exact hz, _, r.reverse, IsTup.new _ _⟩, rfl, q _ (J.hok.fresh (Nat.le_refl _))⟩
theorem de_back (he : PE X e (up X.K W t)) : PE X (.Subscript e (.Slice none none (some (.UnaryOp .USub (.Constant (.int 1) n p1) p2)) p3) pos) (up X.K W (dBack t)) := by
  refine pe_conv (pe_back he) fun σ H Q h => ?_
  obtain ⟨C, M, env, k, x, R, h, hk, hx⟩ := h
  refine ⟨C, M, env, _, x, R, h, fun a e1 v H1 M1 h1 R1 k1 g1 r1 => ?_, hx⟩
  obtain ⟨ds, rfl, kd⟩ := h1
  obtain ⟨b, vs, rfl, nb, hb, hr⟩ := r1
  exact ⟨b, vs, rfl, SqT.of hb, fun t ht => R1.fin k1 g1 kd hk _ _ (same_new ht) ⟨t, _, rfl, R1.avt.new ht, upd_same, (hr.reverse).same (same_new ht)⟩⟩
end

/-! ### set(t) -/
section
variable {P : Program} {w : World} {A : Around} {E : Value → Shared → Prop} {s : Shared}
abbrev noSet (w : World) : Obj := { cls := .type "set", dict := none, data := .set #[] 0 (.fresh 0 0 (!w.params.followText "set-order")) }
abbrev iterOf (l : Addr) : Obj := { cls := .type "tuple_iterator", data := .fields #[.ref l, .int 0 0] }
theorem call_setTup {l : Addr} {items : Array Value} (ks : List (Addr × List Int)) {Q : Value → Shared → Prop} (hh : A.handled = none) (hl : IsTup s.heap l items) (hit : items.toList = ks.map fun p => Value.ref p.1)
    (hk : ∀ p ∈ ks, IsT P w s.heap p.2 p.1) (hf : ks.length < 64) (hu : A.units + 3 < cLine)
    (fin : ∀ (h' : Heap) (tk : Nat) L es ep t, SetTR P w h' s.heap.objs.size L es ep t → Got ks ks.length L → (∀ b o, s.heap.get? b = some o → h'.get? b = some o) → Q (.ref s.heap.objs.size) { s with heap := h', toks := tk }) :
    wpAny (model P w) A (call (.type "set") [.ref l]) Q E s := by
  have n0 : items.size = ks.length := by
    have q := congrArg List.length hit
    simpa using q
  obtain ⟨c, tl, hmro⟩ := PySem.F.called_set.mro
  have hmade := PySem.F.called_set.made
  have hsub := PySem.F.called_set.sub
  refine wpAny_call (codeAny_of_tree ?_)
  show wpAny _ _ (callAny (.type "set") _) _ _ _
  refine wpAny_pure ⟨Code.quiet_builtin _ (by decide +kernel), codeAny_builtin PySem.F.entry_type_call ?_⟩
  rw [Around.under_plain (weight_type_call_type "set" [.ref l] []) rfl]
  have h1 := PySem.F.called_set.notType
  have h2 := PySem.F.called_set.canCreate
  have hct := PySem.F.typeCall_set_1 (.ref l)
  repeat (any_goals (first | assumption | wp_step))
  refine codeAny_mono (code_set_led1 (.ref l) (E := E) (Q₁ := fun ob z => ob = .ref s.heap.objs.size ∧ z = { s with heap := s.heap.push (noSet w) }) ⟨rfl, rfl⟩) fun r z hr => ?_
  cases r with
  | error e => exact hr
  | ok fl =>
    cases fl with
    | ret ob =>
      obtain ⟨rfl, rfl⟩ := hr
      have hS : (s.heap.push (noSet w)).get? s.heap.objs.size = some (noSet w) := Heap.get?_push_size _ rfl
      have hT : Shared.TypeIs { s with heap := s.heap.push (noSet w) } (.ref s.heap.objs.size) "set" := ⟨_, hS, rfl⟩
      have hli := PySem.F.called_set.init.lookup
      have hbi := PySem.F.called_set.init.bind (.ref s.heap.objs.size)
      repeat (any_goals (first | assumption | wp_step))
      refine codeAny_mono (codeAny_call_builtin (R := wants (fun r z => r = .none ∧ ∃ h' tk L es ep t, z = { s with heap := h', toks := tk } ∧ SetTR P w h' s.heap.objs.size L es ep t ∧ Got ks ks.length L ∧ (∀ b o, s.heap.get? b = some o → h'.get? b = some o)) E)
        PySem.F.called_set.init.plain PySem.F.entry_set_init (check_set_init_1 hT ?_)) fun r z hz => ?_
      · obtain ⟨⟨oc, od, oda, osl⟩, ho, hc, nl, hd⟩ := hl
        simp only at hc hd
        subst hc hd
        have ho' : (s.heap.push (noSet w)).get? l = some { cls := .type "tuple", dict := od, data := .seq items nl, slots := osl } := Heap.get?_push_of_some _ ho
        have f1 := PySem.F.sub_tuple_set
        have f2 := PySem.F.sub_tuple_frozenset
        have f3 : (Value.type "tuple" == Value.type "dict") = false := by decide
        have f4 : (s.heap.push (noSet w)).IsTuple l items := ⟨_, ho', rfl, nl, rfl⟩
        unfold Builtin.«set.__init__» noKeywords Builtin.Frozenset.updateFrom
        generalize hPI : pyIter = PI
        wp_walk
        subst hPI
        refine wpAny_pyIter_tuple f4 (wpAny_bind (wpAny_runValue ?_))
        have lt : l < s.heap.objs.size := Heap.lt_size ho
        have hh3 : A.in1.in1.in1.handled = none := by simp [hh]
        have ne1 : l ≠ (s.heap.push (noSet w)).objs.size := by
          rw [Heap.size_push]; exact Nat.ne_of_lt (Nat.lt_succ_of_lt lt)
        have ne2 : s.heap.objs.size ∉ [(s.heap.push (noSet w)).objs.size, l] := by
          rw [Heap.size_push]; simp only [List.mem_cons, List.not_mem_nil, or_false, not_or]; exact ⟨Nat.ne_of_lt (Nat.lt_succ_self _), Nat.ne_of_gt lt⟩
        have hv : ∀ (i : Nat) (v : Value), items[i]? = some v → ∃ p, ks[i]? = some p ∧ v = .ref p.1 := fun i v hv => by
          have q : items.toList[i]? = some v := by rw [Array.getElem?_toList]; exact hv
          rw [hit, List.getElem?_map] at q
          cases e : ks[i]? with
          | none => rw [e] at q; cases q
          | some p => rw [e] at q; exact ⟨p, rfl, (Option.some.inj q).symm⟩
        have free : ∀ b, s.heap.objs.size ≤ b → s.heap.get? b = none := fun b hb => by
          cases q : s.heap.get? b with
          | none => rfl
          | some o => exact absurd (Nat.lt_of_lt_of_le (Heap.lt_size q) hb) (Nat.lt_irrefl _)
        refine set_update_tups ((Walks.tuple hh3 _ l ne1 items).toS) s.heap.objs.size ne2 ks n0 hf hv s.heap hk (free _ (Nat.le_refl _)) (fun b hb => free b (by rw [List.mem_singleton.mp hb, Heap.size_push]; exact Nat.le_succ _)) hu (items.size - 0) 0 _ (by omega) (Nat.zero_le _)
          ⟨⟨_, Heap.get?_push_size _ rfl, rfl, rfl⟩, (f4.push _)⟩ (fun b o e => Heap.get?_push_of_some _ (Heap.get?_push_of_some _ e)) ?_ ?_
        · have g : ((s.heap.push (noSet w)).push (iterOf l)).get? s.heap.objs.size = some (noSet w) := Heap.get?_push_of_some _ hS
          exact ⟨[], #[], 0, _, setTR_fresh g, Got.zero ks⟩
        · intro s' L es ep t hm hS' g' hkp
          obtain ⟨h', g2, d', tk', os'⟩ := s'
          have eg : g2 = s.gens := hm.gens
          have ed : d' = s.drawn := hm.drawn
          have eo : os' = s.os := hm.os
          subst eg ed eo
          refine wpAny_pure ?_
          show wpAny _ _ (ret Value.none) _ _ _
          rw [n0] at g'
          exact wpAny_pure ⟨rfl, h', tk', L, es, ep, t, rfl, hS', g', hkp⟩
      · cases r with
        | error e => exact hz
        | ok fl2 =>
          cases fl2 with
          | ret r =>
            obtain ⟨rfl, h', tk, L, es, ep, t, rfl, hS', g', hk'⟩ := hz
            repeat (any_goals (first | assumption | wp_step))
            exact fin _ _ _ _ _ _ hS' g' hk'
          | _ => exact hz.elim
    | _ => exact hr.elim
end
def rSetTup (K : PySem.W.Frag) (P : Program) (w : World) : List V → Hp → VK → Prop := fun xs H Q => ∃ (l : Addr) (ks : List (Addr × List Int)), xs = [V.ref l] ∧ SqT K H l (ks.map fun p => V.ref p.1) ∧ (∀ p ∈ ks, SqT K H p.1 (p.2.map V.int)) ∧ ks.length < 64 ∧
  ∀ a L, H a = none → (∀ p ∈ L, p ∈ ks) → (∀ p ∈ ks, p.2 ∈ L.map (·.2)) → Q (.ref a) (upd H a (SetTO P w a L))
section
variable {X : Cx} {W : HW} {e : Expr} {p q pos : Pos} {t : DE}
theorem cr_setTup (hc : X.calm = true) (hu : X.A.units + 64 < cLine) : CallR X (.type "set") (rSetTup X.K X.prog X.w) := by
  intro pins s σ H xs us Q I r h
  obtain ⟨l, ks, rfl, hl, hk, hf, q⟩ := h
  rw [Vals.ref1 r]
  obtain ⟨its, rv, pl, hz⟩ := I.tuple hl
  have hn : H s.heap.objs.size = none := I.hok.fresh (Nat.le_refl _)
  refine call_setTup (P := X.prog) (w := X.w) ks (I.ok.hd hc) pl (by simpa using refs_of_vals rv) (fun p hp => I.isT (hk p hp)) hf (by omega) fun h' tk L es ep t R g k => ?_
  exact ⟨.ref s.heap.objs.size, upd H s.heap.objs.size (SetTO X.prog X.w s.heap.objs.size L), I.laid (t' := tk) k (Nat.le_refl _) (setTO_new R.t0), rfl, q _ L hn (fun p hp => List.mem_of_mem_take (g.sub p hp)) fun p hp => g.all p (by rw [List.take_length]; exact hp)⟩
/-- sorted(set(t)), t a tuple -/
def dSortSetT (t : DE) : DE := fun env k x => t env (fun d e => ∃ ls : List (List Int), d = .tup (ls.map tupI) ∧ ls.length < 64 ∧ ∀ ms : List (List Int), ms.Pairwise (· ≤ ·) → ms.Nodup → (∀ z, z ∈ ms ↔ z ∈ ls) → k (.lst (ms.map tupI)) e) x
theorem de_sortSetT (hc : X.calm = true) (hu : X.A.units + 65 < cLine) (hg : Gl X "sorted") (hm : X.mg "sorted" = none) (hg2 : Gl X "set") (hm2 : X.mg "set" = none) (h : PE X e (up X.K W t)) {p2 : Pos}
    (na : starEach [.Call (.Name "set" q) [e] [] p] X.env = (false, eval (.Call (.Name "set" q) [e] [] p) X.env) :: starEach [] X.env := by rfl) (nb : starEach [e] X.env = (false, eval e X.env) :: starEach [] X.env := by rfl) :
    PE X (.Call (.Name "sorted" p2) [.Call (.Name "set" q) [e] [] p] [] pos) (upF X.K W (dSortSetT t)) := by
  refine pe_conv (pe_callB (cr_sortST hc hu) hg hm PyProof.Rows.boot_sorted (pa_cons (pe_callTy (cr_setTup hc (by omega)) hg2 hm2 PyProof.Rows.boot_set (pa_cons h pa_nil nb) (by decide) (by decide) nb rfl) pa_nil na) (by decide) (by decide) na rfl) fun σ H Q h => ?_
  obtain ⟨C, M, env, k, x, R, h, hk, hx⟩ := h
  refine ⟨C, M, env, _, x, R, h, fun a e1 v H1 M1 h1 R1 k1 g1 r1 => ?_, hx⟩
  obtain ⟨ls, rfl, hl, kd⟩ := h1
  obtain ⟨a, vs, rfl, na, ha, hr⟩ := r1
  obtain ⟨ks, rfl, e2, h3⟩ := rep_tups hr
  refine ⟨a, ks, rfl, SqT.of ha, fun p hp => (h3 p hp).1, by rw [← e2, List.length_map] at hl; exact hl, fun b L hb hsub hall => ?_⟩
  have sm : Same H1 (upd H1 b (SetTO X.prog X.w b L)) := same_new hb
  refine ⟨b, L, fun a => (C.G a ∨ M1 a) ∨ a = b, rfl, upd_same, fun p hp => sqt_same sm (h3 p (hsub p hp)).1, fun p hp => ?_, fun nd ys t hy ht => ?_⟩
  · exact Rep.mono (fun c o e _ => sm c o e) (fun c hn z => z.elim id fun z => absurd hb (z ▸ hn)) _ _ (h3 p (hsub p hp)).2
  · have ht1 : H1 t = none := by
      cases e : H1 t with
      | none => rfl
      | some o => rw [sm t o e] at ht; cases ht
    have sm2 : Same H1 (upd (upd H1 b (SetTO X.prog X.w b L)) t (.lst ys)) := fun c o e => same_new ht c o (sm c o e)
    refine (R1.finF k1 g1 (kd ((L.map (·.2)).mergeSort leR) (sortR_sorted _) ?_ fun z => ?_) hk) t _ _ sm2 ht1 ⟨rfl, ys, upd_same, ?_⟩
    · exact (List.mergeSort_perm _ _).nodup_iff.mpr nd
    · rw [List.mem_mergeSort, ← e2]
      refine ⟨fun hz => ?_, fun hz => ?_⟩
      · obtain ⟨p, hp, rfl⟩ := List.mem_map.mp hz
        exact List.mem_map.mpr ⟨p, hsub p hp, rfl⟩
      · obtain ⟨p, hp, rfl⟩ := List.mem_map.mp hz
        exact hall p hp
    · refine Reps.mono (fun c o e _ => same_new ht c o e) (fun c hn z => ?_) _ _ hy
      rcases z with z | z
      · exact .inl z
      · exact absurd ht (z ▸ hn)
end

/-! ### sorted, of pairs (int, tuple of ints) -/
open PySem.W (alike alikeAll AllAlike dataLe dataLt sort_maps)
def leP (a b : Int × List Int) : Bool := !ltP b a
theorem sortOk_prs (ps : List (Int × List Int)) : SortOk (ps.map prI) where
  pl := by
    rw [plDs_iff]
    intro d hd
    obtain ⟨p, _, rfl⟩ := List.mem_map.mp hd
    exact plD_prI 38 p
  al := by
    rw [pys_map, List.map_map]
    exact AllAlike.of fun a b => alike_prI a b
  kd := .inl fun d hd => by
    rw [pys_map, List.map_map] at hd
    obtain ⟨x, _, rfl⟩ := List.mem_map.mp hd
    exact ⟨_, py_prI x⟩
theorem sortD_prs (ps : List (Int × List Int)) : sortD (ps.map prI) = (ps.mergeSort leP).map prI := by
  unfold sortD
  rw [← sort_maps (r := leP) prI fun a _ b _ => ?_]
  show _ = !dataLt (py (prI b)) (py (prI a))
  rw [lt_prI]; rfl
def prOf : D → Option (Int × List Int)
  | .tup [.int i, .tup ds] => (intsOf ds).map fun l => (i, l)
  | _ => none
theorem prOf_self (p : Int × List Int) : prOf (prI p) = some p := by
  show (intsOf (p.2.map D.int)).map (fun l => (p.1, l)) = _
  rw [ints_self]; rfl
theorem prOf_eq {d : D} {p : Int × List Int} (h : prOf d = some p) : d = prI p := by
  unfold prOf at h
  split at h
  · rename_i i ds
    cases e : intsOf ds with
    | none => rw [e] at h; cases h
    | some l =>
      rw [e] at h
      cases h
      rw [ints_mapM e]; rfl
  · cases h
def prsOf : List D → Option (List (Int × List Int))
  | [] => some []
  | d :: ds => match prOf d, prsOf ds with
    | some p, some ps => some (p :: ps)
    | _, _ => none
theorem prs_self : ∀ ps : List (Int × List Int), prsOf (ps.map prI) = some ps
  | [] => rfl
  | p :: ps => by
    rw [List.map_cons, prsOf, prOf_self, prs_self ps]
theorem prs_eq : ∀ {ds : List D} {ps : List (Int × List Int)}, prsOf ds = some ps → ds = ps.map prI
  | [], ps, h => by cases h; rfl
  | d :: ds, ps, h => by
    rw [prsOf] at h
    cases e1 : prOf d with
    | none => rw [e1] at h; cases h
    | some p =>
      cases e2 : prsOf ds with
      | none => rw [e1, e2] at h; cases h
      | some qs =>
        rw [e1, e2] at h
        cases h
        rw [List.map_cons, ← prOf_eq e1, ← prs_eq e2]
def sortPF : List D → Option D
  | [.lst ds] => (prsOf ds).map fun ps => .lst ((ps.mergeSort leP).map prI)
  | _ => none
theorem c_sortP {K : PySem.W.Frag} : CalF K (rSortL K) sortPF := ⟨fun {Av H ds d xs Q} av r e q => by
  match ds, e with
  | [.lst as], e =>
    obtain ⟨v, rfl, p, vs, rfl, np, hp, rr⟩ := r.inv1
    have e : (prsOf as).map (fun ps => D.lst ((ps.mergeSort leP).map prI)) = some d := e
    cases h : prsOf as with
    | none => rw [h] at e; cases e
    | some ps =>
      rw [h] at e
      cases e
      have h := prs_eq h
      subst h
      refine ⟨p, vs, _, Av, rfl, SqL.of hp, rr, sortOk_prs ps, fun ys t hr ht => ?_⟩
      rw [sortD_prs] at hr
      exact q t _ _ (same_new ht) ht ⟨rfl, _, upd_same, hr.samep (same_new ht) ht⟩⟩
theorem leP_total : PySem.W.TotalLe leP where
  total := fun a b => by
    unfold leP ltP
    by_cases h : a.1 < b.1 ∨ (a.1 = b.1 ∧ a.2 < b.2)
    · have : ¬ (b.1 < a.1 ∨ (b.1 = a.1 ∧ b.2 < a.2)) := by
        rintro (q | ⟨q1, q2⟩)
        · omega
        · rcases h with h | ⟨_, h⟩
          · omega
          · exact List.lt_asymm h q2
      simp [this]
    · simp [h]
  trans := fun a b c h1 h2 => by
    unfold leP ltP at h1 h2 ⊢
    simp only [Bool.not_eq_true', decide_eq_false_iff_not, not_or, not_and] at h1 h2 ⊢
    refine ⟨by omega, fun e q => ?_⟩
    have e1 : b.1 = a.1 := by omega
    have e2 : c.1 = b.1 := by omega
    have q1 := List.not_lt.mp (h1.2 e1)
    have q2 := List.not_lt.mp (h2.2 e2)
    exact List.not_lt.mpr (List.le_trans q1 q2) q
theorem sortP_sorted (ps : List (Int × List Int)) : (ps.mergeSort leP).Pairwise fun a b => a.1 ≤ b.1 := (PySem.W.sort_pairwise leP_total ps).imp fun {a b} h => by
  unfold leP ltP at h
  simp only [Bool.not_eq_true', decide_eq_false_iff_not, not_or, not_and] at h
  omega
end FX

set_option Elab.async false
set_option linter.all false
set_option maxRecDepth 100000
set_option maxHeartbeats 4000000
/-! FxP: a def that refuses; its refusal caught, and asked for its class -/
namespace FX
open PySem PySem.Spec PyProof.Rows L2
/-- what is known of a class of refusals -/
structure XCls (K : PySem.W.Frag) (mg : Str → Option Value) (x : Str) (C : Addr) : Prop where
  g : mg x = some (.ref C)
  q : PySem.W.excIn K C [.type "ValueError", .type "Exception", .type "BaseException", .type "object"] "ValueError.__new__" = true
  k : PySem.W.keepIn K (.ref C) = true
  b : PySem.W.subIn K (.ref C) (.type "BaseException") = some true
  t : PySem.W.typeIn K (.ref C) = some (.type "type")
/-- an exception leaves: its class by name -/
def EWx (mg : Str → Option Value) : XK → HW := fun E e H => e.2 = none ∧ ∃ C, mg e.1 = some (.ref C) ∧ E (.ref C) none H
def sRaise (x : Str) : DS := fun k env => k.ex (x, none) env
/-- a def that raises nothing, called where something may be raised -/
def dF0n (φ : F0) (t : DA) : DE := fun env k x => t env (fun ds e => φ ds (fun d => k d e) (fun _ => False)) x
section
variable {X : Cx} {W : HW} {fr : Bool} {x m : Str} {C : Addr} {p p2 pos pos' : Pos} {j : Nat}
theorem ds_raise {E : XK} (hc : X.calm = true) (tk : Takes X (fun cls d _ H => E cls d H)) (F : XCls X.K X.mg x C) (hg : Gl X x) (hdb : (x == ("__debug__" : Str)) = false := by decide) :
    PS X (.Raise (some (.Call (.Name x p) [.Constant (.str m) j p2] [] pos)) none pos') (upS X.K (EWx X.mg E) fr (sRaise x)) := by
  refine ps_conv (ps_raise hc tk (pmk_own PySem.F.excBase_ValueError F.q F.g F.k (raises_own F.b F.t) hg hdb)) fun D σ H h => ?_
  obtain ⟨C0, M, env, k, R, h, hn, hr, hx, _⟩ := h
  obtain ⟨_, C', e, hE⟩ := hx (x, none) env σ H M h R (.refl _ _) (.refl _ _)
  rw [F.g] at e
  cases e
  exact hE
theorem de_f0n {k : Nat} {f : Addr} {fd : FuncData} {ps : List Str} {e : Expr} {es : List Expr} {t : DA} {φ : F0} (F : FnOk X.prog X.w X.K X.mg X.base CX0 k f fd ps (spF0 X.K EW0 false φ)) (hr : Room k X.A) (hg : Gl X x) (hm : X.mg x = some (.ref f)) (hk : PySem.W.keepIn X.K (.ref f) = true) (hb : Binds X.K fd ps [])
    (ha : PA X (e :: es) (upA X.K W t)) (hdb : (x == ("__debug__" : Str)) = false := by decide) (he : starEach (e :: es) X.env = (false, eval e X.env) :: starEach es X.env := by rfl) (hpl : (backTo pos (starEach es X.env)).any (·.1) = false := by rfl) :
    PE X (.Call (.Name x p) (e :: es) [] pos) (up X.K W (dF0n φ t)) := by
  refine pe_conv (pe_call F hr hg hm hk hb .nil pass0 ha hdb he hpl) fun σ H Q h => ?_
  obtain ⟨C, M, env, k, x, R, h, hk, hx⟩ := h
  refine ⟨C, M, env, _, x, R, h, fun ds e1 vs H1 M1 h1 R1 k1 g1 r1 => ?_, hx⟩
  show spF0 X.K EW0 false φ (vs ++ []) H1 Q _
  rw [List.append_nil]
  exact ⟨_, ds, _, _, R1.avt, r1, h1, fun d v H' kd s r => hk d e1 v H' M1 kd (R1.same s) (k1.trans g1 (.same s)) g1 r, fun e H' xe s => xe.elim⟩
end
/-- a def that may refuse -/
theorem fn_F0X {P : Program} {w : World} {K : PySem.W.Frag} {mg : Str → Option Value} {base : Heap} {x qual : Str} {st : Stmt} {f : Addr} {fd : FuncData} {N ps : List Str} {k n : Nat} {φ : F0} {t : DS} (F : Fun K x qual st f fd) (S : FnScope N ps (defScope st)) (hn : ps.length = n)
    (ht : ∀ ds k x, φ ds k x → ds.length = n ∧ t (endF0 false k x) (envF0 N ds))
    (der : ∀ (cdv : Value) (A : Around) (outer : List PySem.Env) (s : Shared) (H : Hp) (E : XK), Room k (A.deeper (envOfC qual (defScope st) s.heap.objs.size f cdv)) → PSs (cxOf (L2.CX P w) P w K mg base N qual (defScope st) f cdv A outer s H E) (defBody st) (upS K (EWx mg E) false t)) :
    FnOk P w K mg base (L2.CX P w) (k + 1) f fd ps (spF0 K (EWx mg) false φ) := by
  refine F.okX S (fun vs H Q E h => ?_) fun cdv A outer s H vs Q E hr h => ⟨_, der cdv A outer s H E hr, body_F0 (EW := EWx mg) h fun ds k x q => (ht ds k x q).2⟩
  obtain ⟨Av, ds, k, x, av, r, hφ, _⟩ := h
  rw [r.length, (ht ds k x hφ).1, hn]
/-- what never refuses may stand where refusals are taken -/
theorem fn_calm {P : Program} {w : World} {K : PySem.W.Frag} {mg : Str → Option Value} {base : Heap} {k : Nat} {f : Addr} {fd : FuncData} {ps : List Str} {φ ψ : F0} (F : FnOk P w K mg base (L2.CX P w) k f fd ps (spF0 K (EWx mg) false φ)) (h : ∀ ds k x, ψ ds k x → φ ds k (fun _ => False)) : FnOk P w K mg base CX0 k f fd ps (spF0 K EW0 false ψ) where
  len := fun vs H Q E hq => by
    obtain ⟨Av, ds, k, x, av, r, hφ, hk, hx⟩ := hq
    exact F.len vs H Q E ⟨Av, ds, k, fun _ => False, av, r, h ds k x hφ, hk, fun e H' z => z.elim⟩
  run := fun A outer s H args us vs Q E hr e0 hb hv hq => by
    obtain ⟨Av, ds, k, x, av, r, hφ, hk, hx⟩ := hq
    refine codeAny_mono (F.run A outer s H args us vs Q (fun _ _ _ => False) hr e0 hb hv ⟨Av, ds, k, fun _ => False, av, r, h ds k x hφ, hk, fun e H' z => z.elim⟩) fun rs s' hc => ?_
    cases rs with
    | ok fl => cases fl <;> exact hc
    | error e =>
      have hc : L2.CX P w outer H s (fun _ _ _ => False) e s' := hc
      obtain ⟨_, _, _, _, _, _, _, _, _, _, _, _, z⟩ := hc
      exact z.elim
/-- try: f(..) / except X as n: return isinstance(n, Y) -/
def sTryIs (φ : F0) (t : DA) (i : Nat) (x : Str) : DS := fun k env => env[i]? = some .no ∧ t env (fun ds e => e[i]? = some .no ∧ φ ds (fun _ => k.nx e) (fun y => y = (x, none) ∧ k.rt (.bl true) e)) (fun _ _ => False)
theorem Rel.wild {K : PySem.W.Frag} {C : Ctx} {M : AS} {env : Env} {σ : L2.St} {H : Hp} (R : Rel K C M env σ H) {i : Nat} (e : env[i]? = some .no) (v : Option V) : Rel K C M env (σ.set i v) H := by
  obtain ⟨adr, ha, hs⟩ := R.sl
  refine ⟨R.gm, R.gt, R.mm, R.bh, by rw [List.length_set]; exact R.len, adr, ha, fun j s hj => ?_⟩
  by_cases c : i = j
  · subst c
    rw [e] at hj
    cases hj
    exact True.intro
  · have q := hs j s hj
    have g : (σ.set i v)[j]? = σ[j]? := by rw [List.getElem?_set_ne c]
    cases s with
    | no => exact True.intro
    | frz d => obtain ⟨u, h1, h2⟩ := q; exact ⟨u, by rw [g]; exact h1, h2⟩
    | own d => obtain ⟨u, h1, h2⟩ := q; exact ⟨u, by rw [g]; exact h1, h2⟩
    | par d => obtain ⟨h1, h2⟩ := q; exact ⟨by rw [g]; exact h1, h2⟩
theorem kit_ref {K : PySem.W.Frag} {C D : Addr} (hd : PySem.W.hasDictIn K D = true) (ht : PySem.W.typeIn K (.ref D) = some (.type "type")) (hs : PySem.W.subIn K (.ref C) (.ref D) = some true) : PySem.W.kitOne K (.ref C) (.ref D) = some true := by
  unfold PySem.W.kitOne
  by_cases c : ((Value.ref C == Value.ref D) = true)
  · rw [if_pos c]
  · rw [if_neg c]
    obtain ⟨cd, hc, _⟩ := PySem.W.any_some hd
    have e2 : ((PySem.W.clsIn K D).isSome && PySem.W.typeIn K (.ref D) == some (.type "type")) = true := by rw [hc, ht] <;> rfl
    show (if ((PySem.W.clsIn K D).isSome && PySem.W.typeIn K (.ref D) == some (.type "type")) = true then PySem.W.subIn K (.ref C) (.ref D) else none) = _
    rw [if_pos e2]
    exact hs
/-- what is asked of the two classes -/
structure XIs (K : PySem.W.Frag) (mg : Str → Option Value) (x y : Str) (C D : Addr) : Prop where
  gx : mg x = some (.ref C)
  gy : mg y = some (.ref D)
  ex : PySem.W.exmOne K (.ref C) (.ref C) = some true
  is : PySem.W.kitOne K (.ref C) (.ref D) = some true
  cl : ExcC K C
section
variable {X : Cx} {fr : Bool} {g x y n : Str} {i : Nat} {k : Nat} {f C D : Addr} {fd : FuncData} {ps : List Str} {p p2 p3 p4 p5 p6 np pos pos' pos2 pos3 rp : Pos} {e : Expr} {es : List Expr} {t : DA} {φ : F0}
theorem ds_tryIs (hs : X.stack = X.env :: X.outer) (hf : X.env.frame = some X.env.locals) (hN : X.N.Nodup) (hi : X.N[i]? = some n) (hln : X.env.kindOf n = some .local) (hgx : Gl X x) (hdx : (x == ("__debug__" : Str)) = false) (F : XIs X.K X.mg x y C D)
    (G : FnOk X.prog X.w X.K X.mg X.base (L2.CX X.prog X.w) k f fd ps (spF0 X.K (EWx X.mg) false φ)) (hr : Room k X.A) (hg : Gl X g) (hm : X.mg g = some (.ref f)) (hk : PySem.W.keepIn X.K (.ref f) = true) (hb : Binds X.K fd ps [])
    (ha : ∀ (pn : List (Addr × Obj)) (xe : Value → Shared → Prop), PA (X.tr pn xe) (e :: es) (upA X.K W0 t)) (hI : Gl X "isinstance") (hmI : X.mg "isinstance" = none) (hgy : Gl X y) (hdy : (y == ("__debug__" : Str)) = false) (hdn : (n == ("__debug__" : Str)) = false) (hcn : (n == ("__classdict__" : Str)) = false)
    (hdb : (g == ("__debug__" : Str)) = false := by decide) (he : starEach (e :: es) X.env = (false, eval e X.env) :: starEach es X.env := by rfl) (hpl : (backTo pos (starEach es X.env)).any (·.1) = false := by rfl) (hsw : swapsWith (.Call (.Name g p) (e :: es) [] pos) none pos2.line X.env = pure false := by rfl) :
    PS X (.Try [.Expr (.Call (.Name g p) (e :: es) [] pos) pos2] [.ExceptHandler (some (.Name x np)) (some n) [.Return (some (.Call (.Name "isinstance" p2) [.Name n p3, .Name y p4] [] p5)) rp] pos'] [] [] pos3) (upS X.K W0 false (sTryIs φ t i x)) := by
  refine ps_conv (ps_try_as (i := i) (Wout := fun _ _ _ _ => False) hs hf hN hi hln ⟨hgx, hdx, .inl F.gx⟩ takes0 (ts := fun a cls d => fun D' σ H => (cls = .ref C ∧ d = none) ∧ σ[i]? = some (some (.ref a)) ∧ D'.rt (.bl true) H) (tb := fun W => tDrop (tCallS (spF0 X.K (EWx X.mg) false φ) (WE W) (upA X.K W0 t))) (fun W pn xe tk _ => ?_) (fun a oe cls d pn hz hfs => ?_)) fun D' σ H h => ?_
  · exact pss_one (ps_expr (pe_callS (X := X.tr pn xe) G hr hg hm hk hb (fun σ => passAt tk σ) (ha pn xe) hdb he hpl) hsw)
  · by_cases c : cls = .ref C ∧ d = none
    · obtain ⟨rfl, rfl⟩ := c
      refine pss_conv (pss_one (ps_ret (pe_callB (X := X.suite a ((a, oe) :: pn)) (call_isE (X := X) F.cl hz hfs) hI hmI PyProof.Rows.boot_isinstance (pa_cons (pe_var hi (.inl hln) hdn hcn) (pa_cons (pe_glob (v := .ref D) hgy F.gy rfl hdy) pa_nil))))) fun D' σ H h => ?_
      obtain ⟨_, h1, h2⟩ := h
      exact ⟨_, h1, .ref D, .ref D, true, rfl, fun u r => r, F.is, h2⟩
    · exact pss_conv (pss_one ps_never) fun D' σ H h => c h.1
  · obtain ⟨C0, M, env, k, R, ⟨h0, h⟩, hn, hrt, hx, hbc⟩ := h
    refine ⟨C0, M, env, _, _, R, h, fun ds e1 vs H1 M1 h1 R1 k1 g1 r1 => ?_, fun e env' H' M' xe _ _ _ => xe.elim⟩
    obtain ⟨hi1, h1⟩ := h1
    refine ⟨_, ds, _, _, R1.avt, r1, h1, fun d v H' kd s r => hn _ _ _ M1 kd (R1.same s) (k1.trans g1 (.same s)) g1, fun y H' xe s => ?_⟩
    obtain ⟨rfl, xe⟩ := xe
    refine ⟨rfl, C, F.gx, true, F.ex, fun _ a na => ⟨⟨rfl, rfl⟩, ?_, ?_⟩, fun z => nomatch z⟩
    · rw [List.getElem?_set_self (by rw [← R1.len]; exact (List.getElem?_eq_some_iff.mp hi1).1)]
    · refine hrt _ _ _ _ _ M1 xe ((R1.same s).wild hi1 (some (.ref a))) (k1.trans g1 (.same s)) g1 ?_
      rw [if_neg Bool.false_ne_true]
      exact (rfl : V.bl true = V.bl true)
end
end FX

set_option Elab.async false
set_option linter.all false
set_option maxRecDepth 100000
set_option maxHeartbeats 4000000
/-! FxS: a comprehension over zip of two lists within an except suite -/
namespace FX
open PySem PySem.Spec PyProof.Rows L2
section
variable {prog : Program} {w : World} {A : Around} {E : Value → Shared → Prop} {s : Shared}
/-- a list's iterator at its end, while x1 is handled -/
theorem hot_nextOf {it l x1 : Addr} {i : Nat} {items} {Q : Value → Shared → Prop} (hot : HotX.HotAt A x1 s.heap) (nx : x1 ≠ it) (hit : s.heap.IsListIter it l i) (hl : s.heap.IsList l items) (hx : items[i]? = none)
    (hE : ∀ h' e, Heap.ExtBut it s.heap h' → (∃ o, h'.get? e = some o ∧ o.cls = .type "StopIteration") → E (.ref e) { s with heap := h' }) : wpAny (model prog w) A (Builtin.SmallTypes.nextOf (.ref it)) Q E s := by
  obtain ⟨ot, g1, g2, g3⟩ := id hit
  obtain ⟨ol, gl, _, nl, dl⟩ := hl
  obtain ⟨hh, o1, vs1, k1, d1, c1⟩ := hot
  unfold Builtin.SmallTypes.nextOf
  refine wpAny_bind (wpAny_callSpecial?_slot (name := Str.ofString "__next__") hit.typeIs slot_listiter_next
    (wpAny_call_entry slot_listiter_next hit.typeIs entry_listiter_next (?_ : wpAny _ _ (field (.ref it) 0 >>= _) _ _ s) (args_listiter_next _)))
  refine wpAny_bind (wpAny_field g1 g3 (x := .ref l) rfl (?_ : wpAny _ _ (if (Value.ref l == Value.none) = true then _ else _) _ _ s))
  rw [if_neg (by exact Bool.false_ne_true : ¬ ((Value.ref l == Value.none) = true))]
  refine wpAny_bind (?_ : wpAny _ _ (field (.ref it) 1) _ _ s)
  refine wpAny_field g1 g3 (x := .int i 0) rfl (?_ : wpAny _ _ (seqItems? (.ref l) >>= _) _ _ s)
  refine wpAny_bind (wpAny_seqItems gl dl ?_)
  simp only [Int.toNat_natCast, hx]
  refine wpAny_bind (wpAny_rule (wpAny_bind (wpAny_setField g1 g3 (by simp) (?_ : wpAny _ _ (newExc (.type "StopIteration") [] >>= _) _ _ _))))
  refine wpAny_bind ?_
  simp only [newExc, newTuple]
  refine wpAny_bind (wpAny_newObj_type (wpAny_bind (m := firstArgMember _ _) (wpAny_of_eq (a := Value.none) (by first | rfl | (simp only [firstArgMember]; rfl)) (wpAny_newObj_type ?_ (by size_fits)))) (by size_fits))
  have k2 : (s.heap.update it (Obj.mapFields fun vs => vs.setIfInBounds 0 Value.none)).get? x1 = some o1 := by
    rw [Heap.get?_update_other _ _ nx.symm]
    exact k1
  refine HotX.raiseNew_hot (x1 := x1) ⟨hh, o1, vs1, Heap.get?_push_of_some _ (Heap.get?_push_of_some _ k2), d1, c1⟩ (Nat.ne_of_lt (Heap.lt_size (Heap.get?_push_of_some _ k2))) (Heap.get?_push_size _ rfl) rfl (by first | (simp; done) | (simp; omega) | (simp only [Array.size_append]; simp; omega)) ?_
  refine hE _ _ (fun b o hb e => ?_) ⟨_, Heap.get?_update_self _ (Heap.get?_push_size _ rfl) rfl, rfl⟩
  have p1 : (s.heap.update it (Obj.mapFields fun vs => vs.setIfInBounds 0 Value.none)).get? b = some o := by
    rw [Heap.get?_update_other _ _ hb.symm]
    exact e
  rw [Heap.get?_update_other _ _ (Nat.ne_of_gt (Heap.lt_size (Heap.get?_push_of_some _ p1)))]
  exact Heap.get?_push_of_some _ (Heap.get?_push_of_some _ p1)
/-- zip of two lists at its end, while x1 is handled -/
theorem hot_zipEnd {z TI TO i1 i2 l1 l2 x1 : Addr} {j1 j2 : Nat} {us vs : Array Value} {a b : Value} {Q : PySem.Fin → Shared → Prop} (hot : HotX.HotAt A x1 s.heap) (n1 : x1 ≠ i1) (n2 : x1 ≠ i2) (nz : x1 ≠ z) (nT : x1 ≠ TO) (D : ZipApart z TI TO i1 i2 l1 l2)
    (gz : IsZip s.heap z TI TO .none) (gI : IsPair s.heap TI (.ref i1) (.ref i2)) (gO : IsPair s.heap TO a b) (q1 : s.heap.IsListIter i1 l1 j1) (q2 : s.heap.IsListIter i2 l2 j2) (m1 : s.heap.IsList l1 us) (m2 : s.heap.IsList l2 vs) (fin : us[j1]? = none ∨ vs[j2]? = none)
    (hE : ∀ h' e, (∀ c o, c ≠ z → c ≠ TO → c ≠ i1 → c ≠ i2 → s.heap.get? c = some o → h'.get? c = some o) → (∃ o, h'.get? e = some o ∧ o.cls = .type "StopIteration") → E (.ref e) { s with heap := h' }) : wpAny (model prog w) A (Builtin.«zip.__next__» ⟨[.ref z], []⟩) Q E s := by
  obtain ⟨hh, ox, vx, gx, dx, cx⟩ := hot
  show wpAny (model prog w) A (field (.ref z) 2 >>= _) Q E s
  refine wpAny_bind (wpAny_field gz rfl (x := .bool false) rfl ?_)
  show wpAny (model prog w) A (field (.ref z) 3 >>= _) Q E s
  refine wpAny_bind (wpAny_field gz rfl (x := .ref TI) rfl (wpAny_bind (wpAny_seqItems gI rfl ?_)))
  show wpAny (model prog w) A (Builtin.SmallTypes.ownedTupleIsFree (.ref z) >>= _) Q E s
  refine wpAny_bind ?_
  unfold Builtin.SmallTypes.ownedTupleIsFree
  refine wpAny_bind (wpAny_field gz rfl (x := .none) rfl (wpAny_pure ?_))
  simp only [if_true]
  refine wpAny_bind (wpAny_rule (wpAny_bind (wpAny_field gz rfl (x := .ref TO) rfl (wpAny_bind (wpAny_setField_rec gz (by simp) fun e1 w1 b1 => ?_)))))
  have w1 : IsZip e1 z TI TO .ellipsis := w1
  have u1 : ∀ c o, c ≠ z → s.heap.get? c = some o → e1.get? c = some o := b1.extBut
  refine wpAny_bind ?_
  simp only [List.zipIdx_cons, List.zipIdx_nil, List.forIn_cons, List.forIn_nil]
  refine wpAny_bind (wpAny_bind (wpAny_onRaise ?_))
  show wpAny (model prog w) A (Builtin.SmallTypes.nextOf (.ref i1) >>= _) _ _ _
  refine wpAny_bind ?_
  have r1 := q1.extBut b1.extBut D.i1z
  have t1 := m1.extBut b1.extBut D.l1z
  cases c1 : us[j1]? with
  | none =>
    refine hot_nextOf ⟨hh, ox, vx, u1 _ _ nz gx, dx, cx⟩ n1 r1 t1 c1 fun e2 e b2 ⟨oe, ge, ce⟩ => ?_
    have w2 : IsZip e2 z TI TO .ellipsis := b2 _ _ D.i1z.symm w1
    have ne : e ≠ z := fun q => by
      rw [q, w2] at ge
      cases ge
      simp at ce
    refine wpAny_setField_rec w2 (by simp) fun e3 _ b3 => hE e3 e (fun c o p1 _ p3 _ g => ?_) ⟨oe, b3.extBut _ _ ne ge, ce⟩
    exact b3.extBut _ _ p1 (b2 _ _ p3 (u1 _ _ p1 g))
  | some x =>
    have c2 : vs[j2]? = none := fin.elim (fun q => by rw [c1] at q; cases q) id
    refine wpAny_nextOf_list_item r1 t1 c1 fun e2 y1 b2 => wpAny_pure ?_
    have o2 : IsPair e2 TO a b := b2.extBut _ _ D.TOi1 (u1 _ _ D.TOz gO)
    refine wpAny_bind (wpAny_seqItems o2 rfl (wpAny_bind (wpAny_updateSeq_pair o2 fun e3 o3 b3 => wpAny_bind (wpAny_letGo (wpAny_pure ?_)))))
    refine wpAny_bind (wpAny_bind (wpAny_onRaise ?_))
    show wpAny (model prog w) A (Builtin.SmallTypes.nextOf (.ref i2) >>= _) _ _ _
    refine wpAny_bind ?_
    have u3 : ∀ c o, c ≠ z → c ≠ i1 → c ≠ TO → s.heap.get? c = some o → e3.get? c = some o := fun c o p1 p2 p3 g => b3.extBut _ _ p3 (b2.extBut _ _ p2 (u1 _ _ p1 g))
    have r3 := ((q2.extBut b1.extBut D.i2z).extBut b2.extBut D.i12.symm).extBut b3.extBut D.TOi2.symm
    have t3 := ((m2.extBut b1.extBut D.l2z).extBut b2.extBut D.l2i1).extBut b3.extBut D.l2TO
    refine hot_nextOf ⟨hh, ox, vx, u3 _ _ nz n1 nT gx, dx, cx⟩ n2 r3 t3 c2 fun e4 e b4 ⟨oe, ge, ce⟩ => ?_
    have w4 : IsZip e4 z TI TO .ellipsis := b4 _ _ D.i2z.symm (b3.extBut _ _ D.TOz.symm (b2.extBut _ _ D.i1z.symm w1))
    have ne : e ≠ z := fun q => by
      rw [q, w4] at ge
      cases ge
      simp at ce
    refine wpAny_setField_rec w4 (by simp) fun e5 _ b5 => hE e5 e (fun c o p1 p2 p3 p4 g => ?_) ⟨oe, b5.extBut _ _ ne ge, ce⟩
    exact b5.extBut _ _ p1 (b4 _ _ p4 (u3 _ _ p1 p3 p2 g))
theorem hot_zipNext {z TI TO i1 i2 l1 l2 x1 : Addr} {j1 j2 : Nat} {us vs : Array Value} {a b : Value} {Q : Option Value → Shared → Prop} (hot : HotX.HotAt A x1 s.heap) (n1 : x1 ≠ i1) (n2 : x1 ≠ i2) (nz : x1 ≠ z) (nT : x1 ≠ TO) (D : ZipApart z TI TO i1 i2 l1 l2)
    (gz : IsZip s.heap z TI TO .none) (gI : IsPair s.heap TI (.ref i1) (.ref i2)) (gO : IsPair s.heap TO a b) (q1 : s.heap.IsListIter i1 l1 j1) (q2 : s.heap.IsListIter i2 l2 j2) (m1 : s.heap.IsList l1 us) (m2 : s.heap.IsList l2 vs) (fin : us[j1]? = none ∨ vs[j2]? = none)
    (hQ : ∀ h', (∀ c o, c ≠ z → c ≠ TO → c ≠ i1 → c ≠ i2 → s.heap.get? c = some o → h'.get? c = some o) → Q none { s with heap := h' }) : wpAny (model prog w) A (pyNext (.ref z)) Q E s := by
  have ty : s.TypeIs (.ref z) "zip" := ⟨_, gz, rfl⟩
  unfold pyNext
  have go : wpAny (model prog w) A.in1 (Builtin.«zip.__next__» ⟨[.ref z], []⟩) (fun _ _ => False) (fun e s' => ∃ a h', e = Value.ref a ∧ s' = { s with heap := h' } ∧ (∀ c o, c ≠ z → c ≠ TO → c ≠ i1 → c ≠ i2 → s.heap.get? c = some o → h'.get? c = some o) ∧ ∃ o, h'.get? a = some o ∧ o.cls = .type "StopIteration") s :=
    hot_zipEnd (show HotX.HotAt A.in1 x1 s.heap from hot) n1 n2 nz nT D gz gI gO q1 q2 m1 m2 fin fun h' e k g => ⟨e, h', rfl, rfl, k, g⟩
  refine wpAny_bind (wpAny_attempt (wpAny_callSpecial?_slot (name := Str.ofString "__next__") ty F.slot_zip_next (wpAny_call_entry F.slot_zip_next ty F.entry_zip_next (wpAny_mono go (fun _ _ q => False.elim q) fun e s' he => ?_) (F.args_zip_next_1 _))))
  obtain ⟨a, h', rfl, rfl, k, o, g, c⟩ := he
  exact wpAny_bind (wpAny_isInstance (T := "StopIteration") (b := true) ⟨o, g, c⟩ isSubtype_stop (wpAny_pure (hQ _ k)))
end
/-! the zip's own objects, and what a turn does -/
structure ZT (z TI TO i1 i2 a b : Addr) (i : Nat) (h : Heap) : Prop where
  z : IsZip h z TI TO .none
  ti : IsPair h TI (.ref i1) (.ref i2)
  to : ∃ x y, IsPair h TO x y
  l1 : h.IsListIter i1 a i
  l2 : h.IsListIter i2 b i
section
variable {z TI TO i1 i2 a b : Addr} {i : Nat} {h h' : Heap}
theorem zt_in {c : Addr} : c ∈ [z, TI, TO, i1, i2] ↔ c = z ∨ c = TI ∨ c = TO ∨ c = i1 ∨ c = i2 := by simp
theorem ZT.at (t : ZT z TI TO i1 i2 a b i h) (k : ∀ c ∈ [z, TI, TO, i1, i2], ∀ o, h.get? c = some o → h'.get? c = some o) : ZT z TI TO i1 i2 a b i h' := by
  obtain ⟨x, y, q⟩ := t.to
  exact ⟨k _ (by simp) _ t.z, k _ (by simp) _ t.ti, ⟨x, y, k _ (by simp) _ q⟩, t.l1.at fun o e => k _ (by simp) o e, t.l2.at fun o e => k _ (by simp) o e⟩
theorem ZT.obj (t : ZT z TI TO i1 i2 a b i h) : ∀ c ∈ [z, TI, TO, i1, i2], ∃ o, h.get? c = some o ∧ ∀ v, o.data ≠ .cell v := fun c hc => by
  obtain ⟨x, y, q⟩ := t.to
  obtain ⟨p1, e1, _, d1⟩ := t.l1
  obtain ⟨p2, e2, _, d2⟩ := t.l2
  rcases zt_in.mp hc with rfl | rfl | rfl | rfl | rfl
  · exact ⟨_, t.z, fun v n => nomatch n⟩
  · exact ⟨_, t.ti, fun v n => nomatch n⟩
  · exact ⟨_, q, fun v n => nomatch n⟩
  · exact ⟨p1, e1, fun v n => by rw [d1] at n; cases n⟩
  · exact ⟨p2, e2, fun v n => by rw [d2] at n; cases n⟩
theorem ZT.lt (t : ZT z TI TO i1 i2 a b i h) {c : Addr} (hc : c ∈ [z, TI, TO, i1, i2]) : c < h.objs.size := by
  obtain ⟨o, e, _⟩ := t.obj c hc
  exact Heap.lt_size e
variable {X : Cx} {pins : List (Addr × Obj)} {s : Shared} {σ : L2.St} {H : Hp} {E : Value → Shared → Prop} {xs ys : List V} {x y : V}
theorem zt_item {elts : List Expr} {kk : Nat} {tpos : Pos} (D : ZipApart z TI TO i1 i2 a b) (J : Inv X pins σ H s) (hf : ∀ c ∈ [z, TI, TO, i1, i2], FpOk X pins H c) (t : ZT z TI TO i1 i2 a b i s.heap) (qa : SqL X.K H a xs) (qb : SqL X.K H b ys) (hx : xs[i]? = some x) (hy : ys[i]? = some y) :
    wpAny (model X.prog X.w) X.A (pyNext (.ref z)) (fun r s1 => ∃ T, r = some (.ref T) ∧ H T = none ∧ wpAny (model X.prog X.w) X.A (letOwnedTupleGo (.Tuple elts kk tpos) (.ref z) (.ref T)) (fun _ s2 => Inv X pins σ (upd H T (.tup [x, y])) s2 ∧ ZT z TI TO i1 i2 a b (i + 1) s2.heap ∧ ∀ c ∈ [z, TI, TO, i1, i2], upd H T (.tup [x, y]) c = none) E s1) E s := by
  obtain ⟨x0, y0, tO⟩ := t.to
  obtain ⟨us, ru, pu, _⟩ := J.list qa
  obtain ⟨ws, rw_, pw, _⟩ := J.list qb
  obtain ⟨u, gu, ru'⟩ := ru.get hx
  obtain ⟨w, gw, rw'⟩ := rw_.get hy
  have zl : z < s.heap.objs.size := Heap.lt_size t.z
  refine wpAny_pyNext_zip_item D t.z t.ti tO t.l1 t.l2 pu.isList pw.isList (x := u) (y := w) (by simpa using gu) (by simpa using gw) fun g z1 O1 m1 m2 nT nsz keep => ?_
  refine ⟨_, rfl, J.hok.fresh (Nat.le_refl _), wpAny_letOwnedTupleGo_zip (s := { s with heap := g }) z1 fun g2 z2 sb => ?_⟩
  have nT2 : g2.get? s.heap.objs.size = some { cls := .type "tuple", data := .seq #[u, w] } := (sb.2 _ (Nat.ne_of_gt zl)).trans nT
  have fresh : ObjOk X.prog X.w (upd H s.heap.objs.size (.tup [x, y])) g2 s.heap.objs.size (.tup [x, y]) := ⟨by show 2 ≤ sizeLine; decide, [u, w], .cons ru' (.cons rw' .nil), ⟨_, nT2, rfl, _, rfl⟩⟩
  have kp : ∀ c o, c ∉ [z, TI, TO, i1, i2] → s.heap.get? c = some o → g2.get? c = some o := fun c o hc e => by
    have n : ¬ (c = z ∨ c = TI ∨ c = TO ∨ c = i1 ∨ c = i2) := fun q => hc (zt_in.mpr q)
    exact (sb.2 c fun q => n (.inl q)).trans (keep c o (fun q => n (.inl q)) (fun q => n (.inr (.inr (.inl q)))) (fun q => n (.inr (.inr (.inr (.inl q))))) (fun q => n (.inr (.inr (.inr (.inr q))))) e)
  refine ⟨J.turnedNew (t' := s.toks) (ch := [z, TI, TO, i1, i2]) kp hf (Nat.le_refl _) fresh, ⟨z2, ?_, ⟨u, w, ?_⟩, ?_, ?_⟩, fun c hc => ?_⟩
  · exact (sb.2 _ D.TIz).trans (keep _ _ D.TIz D.TITO D.TIi1 D.TIi2 t.ti)
  · exact (sb.2 _ D.TOz).trans O1
  · exact m1.at fun o e => (sb.2 _ D.i1z).trans e
  · exact m2.at fun o e => (sb.2 _ D.i2z).trans e
  · rw [upd_ne (Nat.ne_of_lt (t.lt hc))]
    exact (hf c hc).1
theorem zt_done {p : Addr × Obj} (hot : L2H.Hot1 X.A p) (hp : p ∈ X.pn ++ pins) (D : ZipApart z TI TO i1 i2 a b) (J : Inv X pins σ H s) (hf : ∀ c ∈ [z, TI, TO, i1, i2], FpOk X pins H c) (t : ZT z TI TO i1 i2 a b i s.heap) (qa : SqL X.K H a xs) (qb : SqL X.K H b ys) (hx : xs.length ≤ i) :
    wpAny (model X.prog X.w) X.A (pyNext (.ref z)) (fun r s1 => r = none ∧ Inv X pins σ H s1) E s := by
  obtain ⟨x0, y0, tO⟩ := t.to
  obtain ⟨us, ru, pu, _⟩ := J.list qa
  obtain ⟨ws, rw_, pw, _⟩ := J.list qb
  have ul := ru.length
  obtain ⟨hh, vs1, d1, c1⟩ := hot
  have pk := J.pin p hp
  have ne : ∀ c ∈ [z, TI, TO, i1, i2], p.1 ≠ c := fun c hc => (hf c hc).2.2.2.2.2 p hp
  refine hot_zipNext (x1 := p.1) ⟨hh, p.2, vs1, pk.1, d1, c1⟩ (ne _ (by simp)) (ne _ (by simp)) (ne _ (by simp)) (ne _ (by simp)) D t.z t.ti tO t.l1 t.l2 pu.isList pw.isList (.inl (by simp; omega)) fun g keep => ⟨rfl, ?_⟩
  refine J.turnedL (t' := s.toks) (ch := [z, TI, TO, i1, i2]) (fun c o hc e => ?_) hf
  have n : ¬ (c = z ∨ c = TI ∨ c = TO ∨ c = i1 ∨ c = i2) := fun q => hc (zt_in.mpr q)
  exact keep c o (fun q => n (.inl q)) (fun q => n (.inr (.inr (.inl q)))) (fun q => n (.inr (.inr (.inr (.inl q))))) (fun q => n (.inr (.inr (.inr (.inr q))))) e
end
/-- [elt for x, y in zip(e, e2) if ..], both of one length -/
def tLcZ (K : PySem.W.Frag) (ta : TA) (g : TG) (tt : TT) (te : TE) (vs : List Nat) : TE := fun σ H Q => ta σ H fun ws H1 => ∃ (a b : Addr) (xs ys : List V), ws = [.ref a, .ref b] ∧ SqL K H1 a xs ∧ SqL K H1 b ys ∧ xs.length = ys.length ∧ ∀ D, H1 D = none → ∃ Pv : Nat → Hp → Prop,
  Pv 0 (upd H1 D (.lst [])) ∧ (∀ i H, Pv i H → SqL K H a xs ∧ SqL K H b ys) ∧
  (∀ (i : Nat) (x y : V) (T : Addr) (H : Hp), xs[i]? = some x → ys[i]? = some y → Pv i H → H T = none → g (.ref T) (wipe σ vs) (upd H T (.tup [x, y])) fun σ2 H2 => wipe σ2 vs = wipe σ vs ∧ tt σ2 H2 fun b H3 =>
    if b = true then te σ2 H3 fun y H4 => ∃ acc, H4 D = some (.lst acc) ∧ acc.length < sizeLine ∧ Pv (i + 1) (upd H4 D (.lst (acc ++ [y]))) else Pv (i + 1) H3) ∧ ∀ H, Pv xs.length H → Q (.ref D) H
section
variable {prog : Program} {w : World} {A : Around} {E : Value → Shared → Prop} {s : Shared}
/-- a tuple's iterator at its end, while x1 is handled -/
theorem hot_tupEnd {it t x1 : Addr} {i : Nat} {items} {Q : Option Value → Shared → Prop} (hot : HotX.HotAt A x1 s.heap) (nx : x1 ≠ it) (hit : IsTupIter s.heap it t i) (ht : IsTup s.heap t items) (hx : items[i]? = none)
    (hQ : ∀ h', Heap.ExtBut it s.heap h' → Q none { s with heap := h' }) : wpAny (model prog w) A (pyNext (.ref it)) Q E s := by
  obtain ⟨ot, g1, g2, g3⟩ := id hit
  obtain ⟨ol, gl, _, nl, dl⟩ := ht
  obtain ⟨hh, o1, vs1, k1, d1, c1⟩ := hot
  unfold pyNext
  refine wpAny_bind (wpAny_attempt (wpAny_callSpecial?_slot (name := Str.ofString "__next__") hit.typeIs slot_tupleiter_next (wpAny_call_entry slot_tupleiter_next hit.typeIs entry_tupleiter_next ?_ (args_tupleiter_next _))))
  show wpAny (model prog w) A.in1 (field (.ref it) 0 >>= _) _ _ s
  refine wpAny_bind (wpAny_field g1 g3 (x := .ref t) rfl ?_)
  show wpAny (model prog w) A.in1 (if (Value.ref t == Value.none) = true then _ else _) _ _ s
  rw [if_neg (by exact Bool.false_ne_true : ¬ ((Value.ref t == Value.none) = true))]
  show wpAny (model prog w) A.in1 (field (.ref it) 1 >>= _) _ _ s
  refine wpAny_bind (wpAny_field g1 g3 (x := .int i 0) rfl ?_)
  show wpAny (model prog w) A.in1 (seqItems? (.ref t) >>= _) _ _ s
  refine wpAny_bind (wpAny_seqItems gl dl ?_)
  simp only [Int.toNat_natCast, hx]
  refine wpAny_bind (wpAny_rule (wpAny_bind (wpAny_setField g1 g3 (by simp) ?_)))
  show wpAny (model prog w) A.in1 (newExc (.type "StopIteration") [] >>= _) _ _ _
  refine wpAny_bind ?_
  simp only [newExc, newTuple]
  refine wpAny_bind (wpAny_newObj_type (wpAny_bind (m := firstArgMember _ _) (wpAny_of_eq (a := Value.none) (by first | rfl | (simp only [firstArgMember]; rfl)) (wpAny_newObj_type ?_ (by size_fits)))) (by size_fits))
  have k2 : (s.heap.update it (Obj.mapFields fun vs => vs.setIfInBounds 0 Value.none)).get? x1 = some o1 := by
    rw [Heap.get?_update_other _ _ nx.symm]
    exact k1
  refine HotX.raiseNew_hot (x1 := x1) ⟨hh, o1, vs1, Heap.get?_push_of_some _ (Heap.get?_push_of_some _ k2), d1, c1⟩ (Nat.ne_of_lt (Heap.lt_size (Heap.get?_push_of_some _ k2))) (Heap.get?_push_size _ rfl) rfl (by first | (simp; done) | (simp; omega) | (simp only [Array.size_append]; simp; omega)) ?_
  refine wpAny_bind (wpAny_isInstance (T := "StopIteration") (b := true) ⟨_, Heap.get?_update_self _ (Heap.get?_push_size _ rfl) rfl, rfl⟩ isSubtype_stop (wpAny_pure (hQ _ fun b o hb e => ?_)))
  have p1 : (s.heap.update it (Obj.mapFields fun vs => vs.setIfInBounds 0 Value.none)).get? b = some o := by
    rw [Heap.get?_update_other _ _ hb.symm]
    exact e
  rw [Heap.get?_update_other _ _ (Nat.ne_of_gt (Heap.lt_size (Heap.get?_push_of_some _ p1)))]
  exact Heap.get?_push_of_some _ (Heap.get?_push_of_some _ p1)
/-- a tuple unpacked, while x1 is handled -/
theorem hot_unpack {t x1 : Addr} {items : Array Value} {tgs : List (Bool × (Value → Sem Unit))} {Q : Unit → Shared → Prop} (hot : HotX.HotAt A x1 s.heap) (ht : IsTup s.heap t items) (hn : tgs.length = items.size) (hst : tgs.findIdx? (·.1) = none)
    (h : ∀ h', Heap.ExtBut s.heap.objs.size s.heap h' → wpAny (model prog w) A (assignInOrder (tgs.map (·.2)) items.toList) Q E { s with heap := h' }) : wpAny (model prog w) A (unpack (.ref t) tgs) Q E s := by
  obtain ⟨ot, go, _⟩ := id ht
  have tlt := Heap.lt_size go
  obtain ⟨hh, o1, vs1, k1, d1, c1⟩ := hot
  have xlt := Heap.lt_size k1
  unfold unpack
  rw [hn, hst]
  refine wpAny_bind (wpAny_holding ?_)
  unfold unpackItems notIterableAtAll
  refine wpAny_bind (wpAny_bind (wpAny_specialOf ht.typeIs slot_tuple_iter.lookup (wpAny_pure ?_)))
  simp only [Bool.false_eq_true, if_false]
  refine wpAny_bind (wpAny_holding (iter_tuple ht ?_))
  refine wpAny_bind (wpAny_holding (draw_tuple (Nat.ne_of_lt tlt) items.size 0 _ _ ⟨_, Heap.get?_push_size _ rfl, rfl, rfl⟩ (ht.push _) (by omega) fun g1 it1 sb1 => ?_))
  rw [List.drop_zero, List.take_of_length_le (by simp), if_neg (by simp)]
  have t1 : IsTup g1 t items := (ht.push _).extBut sb1.extBut (Nat.ne_of_lt tlt)
  have x1' : g1.get? x1 = some o1 := sb1.extBut _ _ (Nat.ne_of_lt xlt) (Heap.get?_push_of_some _ k1)
  refine wpAny_bind (wpAny_holding (hot_tupEnd (x1 := x1) ⟨hh, o1, vs1, x1', d1, c1⟩ (Nat.ne_of_lt xlt) it1 t1 (by simp) fun g2 e2 => ?_))
  simp only [Option.isSome_none, Bool.false_eq_true, if_false]
  exact wpAny_pure (h g2 fun b o hb e => e2 b o hb (sb1.extBut b o hb (Heap.get?_push_of_some _ e)))
end
theorem pg_tupH {X : Cx} {es : List Expr} {k n : Nat} {tpos : Pos} {t : TGs} (hc : L2H.HotC X) (h : PGs X es t) (hn : (assignEach es X.env).length = n := by rfl) (hst : (assignEach es X.env).findIdx? (·.1) = none := by rfl) : PG X (.Tuple es k tpos) (gTup X.K n t) := by
  refine ⟨fun pins s σ H v u Q I r q => ?_⟩
  obtain ⟨a, xs, rfl, sq, hl, q⟩ := q
  cases r
  obtain ⟨its, rv, it, _⟩ := I.tuple sq
  obtain ⟨x1, hot⟩ := hc.at I
  rw [PyProof.Rows.assign_Tuple]
  refine wpAny_bind (wpAny_standAt (hot_unpack hot it (by simp [hn, ← hl, rv.length]) hst fun g e => ?_))
  have I1 : Inv X pins σ H { s with heap := g } := I.kept (t' := s.toks) fun b o z => e b o (Nat.ne_of_lt (Heap.lt_size z)) z
  exact h.run pins _ σ H xs _ Q I1 (by simpa using rv) q
/-- a comprehension's block within a suite: what is handled, pinned -/
abbrev hotBlk (X : Cx) (pp : Addr × Obj) (s : Shared) (H : Hp) (scope : Scope) (C : Addr) (cl : List (Str × Addr)) (fp : List Addr) : Cx := Cx.tr (X.blk s H scope (compEnvC scope cl C X.env) fp) [pp] (fun _ _ => False)
section
variable {X : Cx} {elt e e2 : Expr} {elts ifs : List Expr} {kk : Nat} {tpos zp zpos pos : Pos} {scope : Scope} {own : List (Str × Nat)} {ta : TA} {g : TG} {tt : TT} {te : TE}
theorem pe_lcZ {pp : Addr × Obj} (hot : L2H.Hot1 X.A pp) (hpp : pp ∈ X.pn) (hN : X.N.Nodup) (hgz : Gl X "zip") (hmz : X.mg "zip" = none) (ha : PA X [e, e2] ta) (ok : BlkOk X.N X.env.scope scope own)
    (hg : ∀ (s : Shared) (H : Hp) (C : Addr) (cl : List (Str × Addr)) (fp : List Addr), PG (hotBlk X pp s H scope C cl fp) (.Tuple elts kk tpos) g)
    (ht : ∀ (s : Shared) (H : Hp) (C : Addr) (cl : List (Str × Addr)) (fp : List Addr), PTs (hotBlk X pp s H scope C cl fp) ifs tt)
    (he : ∀ (s : Shared) (H : Hp) (C : Addr) (cl : List (Str × Addr)) (fp : List Addr), PE (hotBlk X pp s H scope C cl fp) elt te)
    (hs : ∀ x, foldedSetIterable (.Call (.Name "zip" zp) [e, e2] [] zpos) X.env x = pure x := by intro _; rfl)
    (hst : starEach [e, e2] X.env = (false, eval e X.env) :: starEach [e2] X.env := by rfl) (hpl : (backTo zpos (starEach [e2] X.env)).any (·.1) = false := by rfl) :
    PE X (.ListComp elt [⟨.Tuple elts kk tpos, .Call (.Name "zip" zp) [e, e2] [] zpos, ifs, 0⟩] scope pos) (tLcZ X.K ta g tt te (own.map (·.2))) := by
  refine ⟨fun pins s σ H Q I h => ?_⟩
  have caps : ∀ y ∈ scope.names, y.2 = .free → ∃ c, X.env.cells.lookup y.1 = some c := fun y hy q => (ok.free y hy q).elim (fun k => I.ok.has _ (.inl k)) fun k => I.ok.has _ (.inr k)
  rw [eval_ListComp]
  refine wpAny_comprehension_free (use := none) rfl hs (closure_ok caps) ok.kind (fun y hy q => by rw [ok.uniq y hy, q]) ?_
  refine Call_ (ld_blt I hgz hmz PyProof.Rows.boot_zip (PyProof.Rows.callWith_type1 (thn (ha.run zpos pins s σ H _ I h) fun us t1 ⟨ws, G1, J1, r1, q1⟩ => ?_) hst hpl))
  obtain ⟨a, b, xs, ys, rfl, qa, qb, hlen, h⟩ := q1
  obtain ⟨u1, us1, rfl, v1, r1⟩ : ∃ u1 us1, us = u1 :: us1 ∧ RelV (.ref a) u1 ∧ Vals [.ref b] us1 := by cases r1 with | cons r rr => exact ⟨_, _, rfl, r, rr⟩
  obtain ⟨u2, rfl, v2⟩ : ∃ u2, us1 = [u2] ∧ RelV (.ref b) u2 := by cases r1 with | cons r rr => cases rr; exact ⟨_, rfl, r⟩
  cases v1
  cases v2
  obtain ⟨ia, ra, pa, _⟩ := J1.list qa
  obtain ⟨ib, rb, pb, _⟩ := J1.list qb
  generalize hm0 : t1.heap.objs.size = m0
  refine call_zip_2 pa.isList pb.isList fun g2 gz gI gO g1 g1' gsz keep => wpAny_pyIter_zip gz ?_
  rw [hm0] at gz gI gO g1 g1' gsz
  have DA : ZipApart (m0 + 4) (m0 + 2) (m0 + 3) m0 (m0 + 1) a b := PySem.W.ktu_apart m0 a b (by rw [← hm0]; exact pa.lt) (by rw [← hm0]; exact pb.lt)
  have zt2 : ZT (m0 + 4) (m0 + 2) (m0 + 3) m0 (m0 + 1) a b 0 g2 := ⟨gz, gI, ⟨_, _, gO⟩, g1, g1'⟩
  have J2 : Inv X pins σ G1 { t1 with heap := g2 } := J1.kept (t' := t1.toks) keep
  have fp1 : ∀ c ∈ [m0 + 4, m0 + 2, m0 + 3, m0, m0 + 1], FpOk X pins G1 c := fun c hc => by
    have le : t1.heap.objs.size ≤ c := by
      rw [hm0]
      rcases zt_in.mp hc with rfl | rfl | rfl | rfl | rfl <;> omega
    exact J1.fpOk le (J1.hok.fresh le)
  generalize hfp : [m0 + 4, m0 + 2, m0 + 3, m0, m0 + 1] = fp at fp1
  generalize ht2 : ({ t1 with heap := g2 } : Shared) = t2 at J2
  have zt2 : ZT (m0 + 4) (m0 + 2) (m0 + 3) m0 (m0 + 1) a b 0 t2.heap := by rw [← ht2]; exact zt2
  rw [hm0]
  have mfp : ∀ {c}, c ∈ fp → c ∈ [m0 + 4, m0 + 2, m0 + 3, m0, m0 + 1] := fun {c} hc => hfp ▸ hc
  have mpf : ∀ {c}, c ∈ [m0 + 4, m0 + 2, m0 + 3, m0, m0 + 1] → c ∈ fp := fun {c} hc => hfp ▸ hc
  refine wpAny_newObj_type (newEnv_comp ?_) (by show 0 ≤ sizeLine; decide)
  generalize hDd : t2.heap.objs.size = Dd
  have nD : G1 Dd = none := J2.hok.fresh (Nat.le_of_eq hDd)
  obtain ⟨Pv, P0, Psq, Pst, Pend⟩ := h Dd nD
  -- the list that grows
  generalize ht3 : ({ t2 with heap := t2.heap.push { cls := .type "list", data := .seq ([] : List Value).toArray } } : Shared) = t3
  have e3 : t3.heap = t2.heap.push { cls := .type "list", data := .seq ([] : List Value).toArray } := by rw [← ht3]
  have J3 : Inv X pins σ (upd G1 Dd (.lst [])) t3 := by
    rw [← ht3]
    refine J2.laid (t' := t2.toks) (fun c o q => Heap.get?_push_of_some _ q) (Nat.le_of_eq hDd) ⟨Nat.zero_le _, [], 0, .nil, ?_⟩
    rw [← hDd]
    exact Heap.get?_push_size _ rfl
  have fp3 : ∀ c ∈ fp, FpOk X pins (upd G1 Dd (.lst [])) c ∧ c < t3.heap.objs.size := fun c hc => by
    have lt := zt2.lt (mfp hc)
    obtain ⟨f0, fr⟩ := fp1 c hc
    refine ⟨⟨?_, fr⟩, by rw [e3, Heap.size_push]; exact Nat.lt_succ_of_lt lt⟩
    rw [upd_ne (by rw [← hDd]; exact Nat.ne_of_lt lt)]
    exact f0
  have zt3 : ZT (m0 + 4) (m0 + 2) (m0 + 3) m0 (m0 + 1) a b 0 t3.heap := zt2.at fun c _ o q => by rw [e3]; exact Heap.get?_push_of_some _ q
  have J4 := block_start J3 ok hN fp3
  have kg := hg t3 (upd G1 Dd (.lst [])) t3.heap.objs.size (cellsFrom (t3.heap.objs.size + 1) scope.names (cloFrom X.env.cells scope.names [])) fp
  have kt := ht t3 (upd G1 Dd (.lst [])) t3.heap.objs.size (cellsFrom (t3.heap.objs.size + 1) scope.names (cloFrom X.env.cells scope.names [])) fp
  have ke := he t3 (upd G1 Dd (.lst [])) t3.heap.objs.size (cellsFrom (t3.heap.objs.size + 1) scope.names (cloFrom X.env.cells scope.names [])) fp
  show codeAny _ _ (.compStart _ 0 (.ref (m0 + 4)) (.ref Dd) (compEnvC scope (cellsFrom (t3.heap.objs.size + 1) scope.names (cloFrom X.env.cells scope.names [])) t3.heap.objs.size X.env)) (compPost (model X.prog X.w) X.A X.xe none (EP X pins σ Q) (.ref Dd) t3.heap.objs.size) { t3 with heap := pushCells (t3.heap.push { cls := .type "dict", data := .dict #[] }) scope.names }
  unfold hotBlk at kg kt ke
  generalize hce : compEnvC scope (cellsFrom (t3.heap.objs.size + 1) scope.names (cloFrom X.env.cells scope.names [])) t3.heap.objs.size X.env = ce at J4 kg kt ke ⊢
  have lce : ce.locals = t3.heap.objs.size := by rw [← hce]; rfl
  generalize hG3 : upd G1 Dd (.lst []) = G3 at J3 J4 kg kt ke P0 fp3
  generalize ht4 : ({ t3 with heap := pushCells (t3.heap.push { cls := .type "dict", data := .dict #[] }) scope.names } : Shared) = t4 at J4 ⊢
  have up4 : ∀ c o, t3.heap.get? c = some o → t4.heap.get? c = some o := fun c o q => by rw [← ht4]; exact pushCells_keeps _ _ _ _ (Heap.get?_push_of_some _ q)
  have zt4 : ZT (m0 + 4) (m0 + 2) (m0 + 3) m0 (m0 + 1) a b 0 t4.heap := zt3.at fun c _ o q => up4 c o q
  -- what is handled stays as it is
  have pk := J3.pin pp (List.mem_append_left _ hpp)
  have J4p : Inv (X.blk t3 G3 scope ce fp) [pp] (wipe σ (own.map (·.2))) G3 t4 := J4.pins_of fun q hq => by
    have : q = pp := by simpa using hq
    subst this
    refine ⟨up4 _ _ pk.1, pk.2.1, ?_, fun hm => ?_, pk.2.2.2.2⟩
    · show q.1 ≠ ce.locals
      rw [lce]
      exact Nat.ne_of_lt (Heap.lt_size pk.1)
    · exact (List.mem_cons.mp (J3.stkSub q.1 hm)).elim pk.2.2.1 pk.2.2.2.1
  have J4 : Inv (Cx.tr (X.blk t3 G3 scope ce fp) [pp] (fun _ _ => False)) [] (wipe σ (own.map (·.2))) G3 t4 := J4p.toTry _
  have ppfp : ∀ c ∈ fp, pp.1 ≠ c := fun c hc => (fp3 c hc).1.2.2.2.2.2 pp (List.mem_append_left _ hpp)
  have stat : ∀ {σ' : L2.St} {G' : Hp} {t' : Shared}, Inv (Cx.tr (X.blk t3 G3 scope ce fp) [pp] (fun _ _ => False)) [] σ' G' t' → (∀ c ∈ fp, G' c = none) → ∀ c ∈ fp, FpOk (Cx.tr (X.blk t3 G3 scope ce fp) [pp] (fun _ _ => False)) [] G' c := fun {σ' G' t'} J hn c hc =>
    ⟨hn c hc, (J.ok.exf c hc).1, J.ok.exfs c hc, .inl hc, fun x d q => (J.ok.exf c hc).2 x d q, fun q hq => by
      have : q = pp := by simpa using hq
      rw [this]
      exact ppfp c hc⟩
  have loop : codeAny (model X.prog X.w) X.A (.compLoop (.ListComp elt [⟨.Tuple elts kk tpos, .Call (.Name "zip" zp) [e, e2] [] zpos, ifs, 0⟩] scope pos) 0 (.ref (m0 + 4)) (.ref Dd) ce) (compPost (model X.prog X.w) X.A X.xe none (EP X pins σ Q) (.ref Dd) t3.heap.objs.size) t4 := by
    refine compLoop_any (fun n t' => ∃ i G', n = xs.length - i ∧ i ≤ xs.length ∧ Inv (Cx.tr (X.blk t3 G3 scope ce fp) [pp] (fun _ _ => False)) [] (wipe σ (own.map (·.2))) G' t' ∧ ZT (m0 + 4) (m0 + 2) (m0 + 3) m0 (m0 + 1) a b i t'.heap ∧ (∀ c ∈ fp, G' c = none) ∧ Pv i G') ?_ xs.length ⟨0, G3, rfl, Nat.zero_le _, J4, zt4, fun c hc => (fp3 c hc).1.1, P0⟩
    rintro n t5 ⟨i, G5, rfl, hi, J5, zt5, n5, p5⟩
    obtain ⟨qa5, qb5⟩ := Psq i G5 p5
    have fp5 : ∀ c ∈ [m0 + 4, m0 + 2, m0 + 3, m0, m0 + 1], FpOk (Cx.tr (X.blk t3 G3 scope ce fp) [pp] (fun _ _ => False)) [] G5 c := fun c hc => stat J5 n5 c (mpf hc)
    by_cases lt : i < xs.length
    · refine thnF (zt_item (X := Cx.tr (X.blk t3 G3 scope ce fp) [pp] (fun _ _ => False)) (E := fun _ _ => False) (elts := elts) (kk := kk) (tpos := tpos) DA J5 fp5 zt5 qa5 qb5 (List.getElem?_eq_getElem lt) (List.getElem?_eq_getElem (by omega))) fun r t6 ⟨T, hr, nT, h6⟩ => ?_
      subst hr
      refine thnF h6 fun _ t7 ⟨J7, zt7, n7⟩ => ?_
      have n7 : ∀ c ∈ fp, upd G5 T (.tup [xs[i], ys[i]]) c = none := fun c hc => n7 c (mfp hc)
      have J7' := J7.pinned (stat J7 n7) (fun c hc => zt7.obj c (mfp hc))
      refine thnF (kg.run _ t7 _ _ (.ref T) (.ref T) _ J7' rfl (Pst i _ _ T G5 (List.getElem?_eq_getElem lt) (List.getElem?_eq_getElem (by omega)) p5 nT)) fun _ t8 ⟨σ8, G8, J8, w8, q8⟩ => ?_
      refine thnF (kt.run _ t8 σ8 G8 _ J8 q8) fun bb t9 ⟨G9, J9, q9⟩ => ?_
      have next : ∀ {t' : Shared} {G' : Hp}, Inv (Cx.tr (X.blk t3 G3 scope ce fp) [pp] (fun _ _ => False)) ([] ++ pinsAt fp t7.heap) σ8 G' t' → Pv (i + 1) G' → ∃ m, m < xs.length - i ∧ ∃ j G', m = xs.length - j ∧ j ≤ xs.length ∧ Inv (Cx.tr (X.blk t3 G3 scope ce fp) [pp] (fun _ _ => False)) [] (wipe σ (own.map (·.2))) G' t' ∧ ZT (m0 + 4) (m0 + 2) (m0 + 3) m0 (m0 + 1) a b j t'.heap ∧ (∀ c ∈ fp, G' c = none) ∧ Pv j G' := fun {t' G'} J' pv => by
        have pin' : ∀ c ∈ fp, ∀ o, t7.heap.get? c = some o → t'.heap.get? c = some o ∧ G' c = none := fun c hc o q =>
          have z := J'.pin (c, o) (List.mem_append_right _ (List.mem_append_right _ (mem_pinsAt hc q)))
          ⟨z.1, z.2.1⟩
        refine ⟨_, by omega, i + 1, G', rfl, lt, (J'.unpinned (pins := [])).weak ?_ fun j v q => ?_, zt7.at fun c hc o q => (pin' c (mpf hc) o q).1, fun c hc => ?_, pv⟩
        · rw [← wipe_length σ8 (own.map (·.2)), w8]
        · rw [← w8] at q
          exact (wipe_some q).1
        · obtain ⟨o, q, _⟩ := zt7.obj c (mfp hc)
          exact (pin' c hc o q).2
      cases bb with
      | false =>
        simp only [Bool.false_eq_true, if_false] at q9 ⊢
        exact next J9 q9
      | true =>
        simp only [if_true] at q9 ⊢
        refine thnF (ke.run _ t9 σ8 G9 _ J9 q9) fun v t10 ⟨y, G10, J10, r10, acc, d10, l10, pv⟩ => ?_
        exact app_ok (X := Cx.tr (X.blk t3 G3 scope ce fp) [pp] (fun _ _ => False)) J10 d10 l10 r10 fun t11 J11 => next J11 pv
    · have : i = xs.length := by omega
      subst this
      refine thnF (zt_done (X := Cx.tr (X.blk t3 G3 scope ce fp) [pp] (fun _ _ => False)) (E := fun _ _ => False) hot (List.mem_append_left _ (List.mem_singleton.mpr rfl)) DA J5 fp5 zt5 qa5 qb5 (Nat.le_refl _)) fun r t6 ⟨hr, J6⟩ => ?_
      subst hr
      have J7 : Inv X pins σ G5 t6 := J3.call' (ch := fp) J6.os J6.base J6.hok J6.bare fun c hc => ⟨(fp3 c hc).1.2.2.2.1, (fp3 c hc).1.2.1, (fp3 c hc).1.2.2.2.2.1, (fp3 c hc).1.2.2.2.2.2⟩
      have nL : G5 t3.heap.objs.size = none := by
        have q : G5 ce.locals = none := J6.free
        rwa [lce] at q
      obtain ⟨m, hm, _⟩ := J6.loc
      have hm : t6.heap.Ns ce.locals m := hm
      rw [lce] at hm
      obtain ⟨f0, f1, f2, f3, f4, f5⟩ := J3.fpOk (Nat.le_refl _) nL
      exact ⟨m, hm, fun g' sb => ⟨.ref Dd, G5, J7.turned (t' := t6.toks) (fun c o hc q => (sb.2 c hc).trans q) f0 f1 f3 f4 f5, rfl, Pend G5 p5⟩⟩
  exact codeAny_compStart_list loop (wpAny_pyIter_zip zt4.z loop)
end
end FX

set_option Elab.async false
set_option linter.all false
set_option maxRecDepth 100000
set_option maxHeartbeats 4000000
/-! FxR: sets of up to 76 tuples of ints (the hand layer's own end at 63) -/
namespace FX
open PySem PySem.Spec PyProof.Rows L2
section
variable {P : Program} {w : World} {A : Around} {E : Value → Shared → Prop} {s : Shared}
/-- a set object, its table, its tuples -/
structure BigT (P : Program) (w : World) (h : Heap) (a : Addr) (L : List (Addr × List Int)) (es : Array (Int × Value)) (ep : Nat) (t : SetTable) : Prop where
  obj : ∃ o, h.get? a = some o ∧ o.ExactSet ∧ o.data = .set es ep t
  row : es.toList = rowsOf P w L
  tbl : L2.TabOk t (L.map fun p => thash P w p.2)
  one : (L.map (·.2)).Nodup
  key : ∀ p ∈ L, IsT P w h p.2 p.1
  pln : t.plain = true
  lg : w.params.followText "set-order" = true ∨ t.led = true
  rm : L.length * 5 < t.mask * 3
variable {a : Addr} {L : List (Addr × List Int)} {es : Array (Int × Value)} {ep : Nat} {t : SetTable}
theorem rows_size (h : es.toList = rowsOf P w L) : es.size = L.length := by
  have q := congrArg List.length h
  simpa [rowsOf] using q
theorem BigT.size (B : BigT P w s.heap a L es ep t) : es.size = L.length := rows_size B.row
theorem fits_of {hs : List Int} (T : L2.TabOk t hs) (hl : es.size = hs.length) (hm : hs.length * 5 < t.mask * 3) : t.fits es.size = true := by
  have h1 := T.sz
  unfold SetTable.fits SetTable.fill
  rw [T.dm, Bool.and_eq_true, beq_iff_eq, decide_eq_true_eq]
  show t.place.size = es.size ∧ t.place.size + 0 ≤ t.mask
  omega
theorem BigT.fits (B : BigT P w s.heap a L es ep t) : t.fits es.size = true := fits_of B.tbl (by rw [B.size, List.length_map]) (by rw [List.length_map]; exact B.rm)
theorem BigT.entry (B : BigT P w s.heap a L es ep t) {i : Nat} {p : Addr × List Int} (h : L[i]? = some p) : es[i]? = some (thash P w p.2, Value.ref p.1) := by
  rw [← Array.getElem?_toList, B.row]
  simp [rowsOf, h]
theorem BigT.few (B : BigT P w s.heap a L es ep t) : L.length ≤ 76 := by
  have h := B.rm
  rcases B.tbl.mok with e | e | e <;> rw [e] at h <;> omega
/-- the way's steps, by their number -/
theorem way_nth (m : Nat) (h : Int) (c q : Nat) : (nth m (nth m (runAt m (SetTable.bits h % (m + 1)) (SetTable.bits h)) c) q).j = way m h (c + q) := congrArg SetTable.Probe.j (nth_add m c _ q).symm
theorem nth_clean (m : Nat) : ∀ (n : Nat) (p : SetTable.Probe), p.dummy = none → (nth m p n).dummy = none
  | 0, p, h => h
  | n + 1, p, h => nth_clean m n (adv m p) (by unfold adv; split <;> exact h)
theorem big_search (B : BigT P w s.heap a L es ep t) {x : Addr} {k : List Int} (hx : IsT P w s.heap k x) (hu : A.units < cLine) {N : Nat} (hN : N < 10 * SetTable.turns t.mask)
    (hfree : way t.mask (thash P w k) N ∉ t.place.toList) (hused : ∀ c, c < N → way t.mask (thash P w k) c ∈ t.place.toList) {Q : SetFound → Shared → Prop}
    (yes : k ∈ L.map (·.2) → Q (.there none) s) (no : k ∉ L.map (·.2) → Q (.free (way t.mask (thash P w k) N) false) s) :
    ∀ (f c : Nat) (stand : Option SetTable.Probe), stand.getD (t.probeStart (thash P w k)) = nth t.mask (runAt t.mask (SetTable.bits (thash P w k) % (t.mask + 1)) (SetTable.bits (thash P w k))) c → c ≤ N → N - c < f →
      (∀ (i : Nat) p, L[i]? = some p → p.2 = k → ∃ c', c ≤ c' ∧ c' < N ∧ t.place.toList[i]? = some (way t.mask (thash P w k) c')) →
      wpAny (model P w) A (setSearchFrom a (.ref x) (thash P w k) true f stand) Q E s
  | 0, c, stand, _, _, hf, _ => absurd hf (Nat.not_lt_zero _)
  | f + 1, c, stand, hst, hc, hf, seen => by
    obtain ⟨o, ho, hex, hd⟩ := B.obj
    have hgw : ¬ t.gaveWay = true := by unfold SetTable.gaveWay; rw [mask_odd B.tbl.mok]; decide
    rw [setSearchFrom_succ]
    refine wpAny_bind (wpAny_setState_of ho hd B.fits ?_)
    dsimp only
    refine wp_if_neg hgw ?_
    try refine wpAny_bind (wpAny_pure ?_)
    have sh := fun q => (nth_add t.mask c (runAt t.mask (SetTable.bits (thash P w k) % (t.mask + 1)) (SetTable.bits (thash P w k))) q).symm
    have wy := way_nth t.mask (thash P w k) c
    have hashes : ∀ (i : Nat) p, L[i]? = some p → (es[i]?.map (·.1)).getD 0 = thash P w p.2 := fun i p hp => by rw [B.entry hp]; rfl
    rcases go_spec t B.tbl.ris B.tbl.dm (fun i => (es[i]?.map (·.1)).getD 0) (thash P w k) (10 * SetTable.turns t.mask) (N - c) _ (nth_clean t.mask c _ rfl) (by omega)
      (fun q hq => by rw [wy]; exact hused (c + q) (by omega)) (by rw [wy, show c + (N - c) = N by omega]; exact hfree) with ⟨q, i, hq, hi, hh, hno, hpr⟩ | ⟨hno, hpr⟩
    · have e0 : t.probe (fun i => (es[i]?.map (·.1)).getD 0) (thash P w k) (stand.getD (t.probeStart (thash P w k))) = some (.candidate (way t.mask (thash P w k) (c + q)) i (nth t.mask (runAt t.mask (SetTable.bits (thash P w k) % (t.mask + 1)) (SetTable.bits (thash P w k))) (c + (q + 1)))) := by
        rw [hst, ← wy, ← sh]; exact hpr
      rw [e0]
      dsimp only
      rw [wy] at hi
      have hil : i < L.length := by
        have h1 := (List.getElem?_eq_some_iff.mp hi).1
        have h2 := B.tbl.sz
        rw [List.length_map] at h2
        rw [Array.length_toList] at h1
        omega
      have hp : L[i]? = some L[i] := List.getElem?_eq_getElem hil
      generalize L[i] = p at hp
      have hm : p ∈ L := List.mem_of_getElem? hp
      have go : wpAny (model P w) A (searchRest a (.ref x) (thash P w k) true f es t (way t.mask (thash P w k) (c + q)) i (nth t.mask (runAt t.mask (SetTable.bits (thash P w k) % (t.mask + 1)) (SetTable.bits (thash P w k))) (c + (q + 1)))) Q E s := by
        unfold searchRest
        rw [B.entry hp]
        dsimp only
        refine wpAny_bind (wpAny_holding (wpAny_eqBool_tuple hu (B.key p hm) hx (wpAny_bind (wpAny_setState_of ho hd B.fits ?_))))
        dsimp only
        by_cases eq : p.2 = k
        · exact wp_if_pos (by simp [eq]) (wpAny_pure (yes (List.mem_map.mpr ⟨p, hm, eq⟩)))
        · refine wp_if_neg (by simp [eq]) ?_
          try refine wpAny_bind (wpAny_pure ?_)
          rw [sameMem]
          dsimp only
          have live : t.slot (way t.mask (thash P w k) (c + q)) = .live i := slot_live B.tbl.ris hi
          simp only [if_true, live, B.entry hp]
          refine wpAny_bind (wpAny_isSame_ref_self (wpAny_bind (wpAny_pure ?_)))
          simp only [if_true]
          refine wp_if_neg (by simp [eq]) (big_search B hx hu hN hfree hused yes no f (c + (q + 1)) _ rfl (by omega) (by omega) fun i0 p0 h0 hk0 => ?_)
          obtain ⟨c', a1, a2, a3⟩ := seen i0 p0 h0 hk0
          refine ⟨c', Classical.byContradiction fun lt => ?_, a2, a3⟩
          rcases Nat.lt_or_ge c' (c + q) with z | z
          · exact hno (c' - c) i0 (by omega) (by rw [wy, show c + (c' - c) = c' by omega]; exact a3) ((hashes i0 p0 h0).trans (congrArg (thash P w) hk0))
          · have ec : c' = c + q := by omega
            rw [ec] at a3
            have s0 := slot_live B.tbl.ris a3
            rw [live] at s0
            injection s0 with s0
            rw [← s0, hp] at h0
            exact eq ((congrArg Prod.snd (Option.some.inj h0)).trans hk0)
      by_cases hl : t.led = true
      · refine wp_if_neg (by simp [hl]) ?_
        try refine wpAny_bind (wpAny_pure ?_)
        exact go
      · refine wp_if_pos (by simp [hl]) (wpAny_bind (seen_tup hx (fun y hy => ?_) ?_))
        · obtain ⟨e, he, ee⟩ := List.mem_map.mp hy
          have he1 : e ∈ es ∧ e.1 = thash P w k := by simpa using he
          have he2 : e ∈ es.toList := by simpa using he1.1
          rw [B.row] at he2
          obtain ⟨p2, hp2, e2⟩ := List.mem_map.mp he2
          exact ⟨p2.2, p2.1, by rw [← ee, ← e2], B.key p2 hp2⟩
        · refine wp_if_neg (by decide) ?_
          try refine wpAny_bind (wpAny_pure ?_)
          exact go
    · have e0 : t.probe (fun i => (es[i]?.map (·.1)).getD 0) (thash P w k) (stand.getD (t.probeStart (thash P w k))) = some (.empty (way t.mask (thash P w k) N) none) := by
        have e2 : way t.mask (thash P w k) N = _ := (by rw [wy, show c + (N - c) = N by omega] : (nth t.mask (nth t.mask (runAt t.mask (SetTable.bits (thash P w k) % (t.mask + 1)) (SetTable.bits (thash P w k))) c) (N - c)).j = way t.mask (thash P w k) N).symm
        rw [hst, e2]; exact hpr
      rw [e0]
      dsimp only
      refine wpAny_pure (no fun hm => ?_)
      obtain ⟨p0, h0, hk0⟩ := List.mem_map.mp hm
      obtain ⟨i0, hi0, e1⟩ := List.getElem_of_mem h0
      have h00 : L[i0]? = some p0 := by rw [List.getElem?_eq_getElem hi0, e1]
      obtain ⟨c', a1, a2, a3⟩ := seen i0 p0 h00 hk0
      exact hno (c' - c) i0 (by omega) (by rw [wy, show c + (c' - c) = c' by omega]; exact a3) ((hashes i0 p0 h00).trans (congrArg (thash P w) hk0))
theorem big_find (B : BigT P w s.heap a L es ep t) {x : Addr} {k : List Int} (hx : IsT P w s.heap k x) (hu : A.units < cLine) {Q : SetFound → Shared → Prop} (yes : k ∈ L.map (·.2) → Q (.there none) s)
    (no : ∀ N, k ∉ L.map (·.2) → way t.mask (thash P w k) N ∉ t.place.toList → (∀ c, c < N → way t.mask (thash P w k) c ∈ t.place.toList) → Q (.free (way t.mask (thash P w k) N) false) s) :
    wpAny (model P w) A (setSearch a (.ref x) (thash P w k) true) Q E s := by
  have hroom := B.rm
  obtain ⟨N, hN, hfree, hused⟩ := B.tbl.first (by rw [List.length_map]; omega) (thash P w k)
  have hb : 10 * SetTable.turns t.mask ≤ 1420 := by
    unfold SetTable.turns
    rcases B.tbl.mok with e | e | e <;> omega
  unfold setSearch
  refine big_search B hx hu hN hfree hused yes (fun hn => no N hn hfree hused) 100000 0 none rfl (Nat.zero_le _) (by omega) fun i p hp hk => ?_
  have hi : (L.map fun p => thash P w p.2)[i]? = some (thash P w k) := by rw [List.getElem?_map, hp, ← hk]; rfl
  have hil : i < t.place.toList.length := by
    have h1 := (List.getElem?_eq_some_iff.mp hp).1
    have h2 := B.tbl.sz
    rw [List.length_map] at h2
    rw [Array.length_toList]; omega
  obtain ⟨c, hc, e⟩ := B.tbl.before hfree hi (List.getElem?_eq_getElem hil)
  exact ⟨c, Nat.zero_le _, hc, by rw [List.getElem?_eq_getElem hil, e]⟩
/-- laid anew, larger -/
theorem big_relay {o : Obj} (ho : s.heap.get? a = some o) (hex : o.ExactSet) (hd : o.data = .set es ep t) (hr : es.toList = rowsOf P w L) (hsz : t.place.size = es.size) (hdm : t.dummies = #[]) (hfl : es.size ≤ t.mask) (nd : (L.map (·.2)).Nodup) (ks : ∀ p ∈ L, IsT P w s.heap p.2 p.1)
    (pl : t.plain = true) (ld : w.params.followText "set-order" = true ∨ t.led = true) {wanted M : Nat} (hw : SetTable.sizeAbove wanted - 1 = M) (hM : MaskOk M) (hw2 : SetTable.sizeAbove wanted ≤ 128) (hn : L.length * 5 < M * 3) {Q : Unit → Shared → Prop}
    (fin : ∀ h' L' es' ep' t', Heap.SameBut a s.heap h' → BigT P w h' a L' es' ep' t' → L'.Perm L → Q () { s with heap := h' }) : wpAny (model P w) A (setRelay a wanted) Q E s := by
  have hl := rows_size hr
  have hft : t.fits es.size = true := by
    unfold SetTable.fits SetTable.fill
    rw [hdm, Bool.and_eq_true, beq_iff_eq, decide_eq_true_eq]
    show t.place.size = es.size ∧ t.place.size + 0 ≤ t.mask
    omega
  obtain ⟨t', order, e, hp, T, em, el, ep', ed⟩ := relaid_ok t (hs := es.map (·.1)) (wanted := wanted) hw hM (by rw [Array.size_map, hl]; omega)
  rw [Array.size_map, hl] at hp
  obtain ⟨L2, r1, r2, r3⟩ := order_rows L es order hr hp
  rw [← r3] at T
  have hs2 : (order.filterMap (es[·]?)).size = es.size := by rw [rows_size r1, r2.length_eq, hl]
  have hM76 : L.length ≤ 76 := by rcases hM with e | e | e <;> rw [e] at hn <;> omega
  rw [setRelay_eq]
  refine wpAny_bind (wpAny_setState_of ho hd hft ?_)
  dsimp only
  refine wp_if_neg (by rw [sizeLine_eq]; omega) ?_
  try refine wpAny_bind (wpAny_pure ?_)
  rw [e]
  dsimp only
  refine wpAny_bind (wp_if_neg (by rw [hs2]; simp) ?_)
  try refine wpAny_bind (wpAny_pure ?_)
  refine wpAny_pure ?_
  dsimp only
  refine wpAny_storeSet_of ho hd ?_ (by rw [hs2, hl, sizeLine_eq]; omega)
  have sb : Heap.SameBut a s.heap (s.heap.update a (Obj.putSet (order.filterMap (es[·]?)) t')) := Heap.SameBut.update ..
  exact fin _ L2 _ (ep + 1) t' sb ⟨⟨_, store_at ho hd, ⟨hex.1, hex.2.1, hex.2.2⟩, rfl⟩, r1, T, (r2.map (·.2)).nodup_iff.mpr nd, fun p hm => isT_same (ks p (r2.mem_iff.mp hm)) ho hd sb, by rw [ep']; exact pl, by rw [el]; exact ld, by rw [r2.length_eq, em]; exact hn⟩ r2
/-- one more -/
theorem big_add (B : BigT P w s.heap a L es ep t) {x : Addr} {k : List Int} (hx : IsT P w s.heap k x) (hu : A.units < cLine) (hmore : L.length + 1 ≤ 76) {Q : Bool → Shared → Prop}
    (fin : ∀ b h' L' es' ep' t', Heap.SameBut a s.heap h' → BigT P w h' a L' es' ep' t' → (k ∈ L.map (·.2) → L' = L) → (k ∉ L.map (·.2) → L'.Perm ((x, k) :: L)) → Q b { s with heap := h' }) :
    wpAny (model P w) A (setAddHashed a (.ref x) (thash P w k)) Q E s := by
  obtain ⟨o, ho, hex, hd⟩ := B.obj
  have hsl := B.size
  have hroom := B.rm
  unfold setAddHashed
  refine wpAny_holding ?_
  rw [show (100000 : Nat) = 99999 + 1 from rfl, setAddHashedIn_succ]
  refine wpAny_bind (wpAny_setState_of ho hd B.fits ?_)
  dsimp only
  refine wp_if_neg (by simp [byScan, Value.scannable]) ?_
  try refine wpAny_bind (wpAny_pure ?_)
  refine wpAny_bind (big_find B hx hu (fun hm => ?_) fun N hm hfree hused => ?_)
  · dsimp only
    exact wpAny_pure (fin false s.heap L es ep t (Heap.SameBut.refl a s.heap) B (fun _ => rfl) fun z => absurd hm z)
  dsimp only
  refine wpAny_bind (wpAny_setState_of ho hd B.fits ?_)
  dsimp only
  obtain ⟨q1, q2, q3, q4, q5, q6, q7, q8, q9⟩ := B.tbl.put hfree hused
  have hp1 : (t.put (way t.mask (thash P w k) N)).1.plain = true := by rw [q6]; exact B.pln
  generalize t.put (way t.mask (thash P w k) N) = pt at q1 q3 q4 q5 q6 q7 q8 q9 hp1 ⊢
  obtain ⟨t1, p⟩ := pt
  dsimp only at q1 q3 q4 q5 q6 q7 q8 q9 hp1 ⊢
  subst q1
  first
    | exact absurd hp1 (by decide)
    | (refine wpAny_bind ?_; refine wp_if_pos hp1 ?_; refine hashBy_tup hx ?_)
    | refine wp_if_pos hp1 (wpAny_bind (hashBy_tup hx ?_))
  simp only [if_true]
  have hin : (SetTable.insertAt es (SetTable.below t.place (way t.mask (thash P w k) N)) (thash P w k, Value.ref x)).toList = rowsOf P w (L.take (SetTable.below t.place (way t.mask (thash P w k) N)) ++ (x, k) :: L.drop (SetTable.below t.place (way t.mask (thash P w k) N))) := by
    rw [SetTable.toList_insertAt, rows_put, B.row]
  generalize SetTable.below t.place (way t.mask (thash P w k) N) = p at q2 q3 hin ⊢
  have pm := put_perm L p (x, k)
  have hlen := pm.length_eq
  rw [List.length_cons] at hlen
  have e3 : (L.take p ++ (x, k) :: L.drop p).map (fun p => thash P w p.2) = (L.map fun p => thash P w p.2).take p ++ thash P w k :: (L.map fun p => thash P w p.2).drop p := by
    rw [List.map_append, List.map_cons, List.map_take, List.map_drop]
  rw [← e3] at q3
  have nd1 : ((L.take p ++ (x, k) :: L.drop p).map (·.2)).Nodup := (pm.map (·.2)).nodup_iff.mpr (by rw [List.map_cons]; exact List.nodup_cons.mpr ⟨hm, B.one⟩)
  have hes := rows_size hin
  rw [hlen] at hes
  generalize SetTable.insertAt es p (thash P w k, Value.ref x) = es1 at hin hes ⊢
  generalize L.take p ++ (x, k) :: L.drop p = L1 at pm hlen q3 nd1 hin
  refine wpAny_bind (wpAny_storeSet_of ho hd ?_ (by rw [hes, sizeLine_eq]; omega))
  have sb : Heap.SameBut a s.heap (s.heap.update a (Obj.putSet es1 t1)) := Heap.SameBut.update ..
  have ho1 := store_at (es' := es1) (t' := t1) ho hd
  generalize s.heap.update a (Obj.putSet es1 t1) = h1 at sb ho1 ⊢
  have ks1 : ∀ p ∈ L1, IsT P w h1 p.2 p.1 := fun p hp => (List.mem_cons.mp (pm.mem_iff.mp hp)).elim (fun e => by rw [e]; exact isT_same hx ho hd sb) fun hp => isT_same (B.key p hp) ho hd sb
  have ld1 : w.params.followText "set-order" = true ∨ t1.led = true := by rw [q5]; exact B.lg
  by_cases full : t1.tooFull = true
  · first
      | (refine wpAny_bind ?_; refine wp_if_pos (by simp [full]) ?_)
      | (refine wp_if_pos (by simp [full]) ?_; refine wpAny_bind ?_)
    have hfu := full
    unfold SetTable.tooFull at hfu
    rw [decide_eq_true_eq, q9, List.length_map] at hfu
    rw [hsl]
    have hsz1 : t1.place.size = es1.size := by
      have h := q3.sz
      rw [List.length_map, hlen] at h
      rw [h, hes]
    have at7 : (t.mask = 7 ∧ L.length = 4) ∨ (t.mask = 31 ∧ L.length = 18) := by
      rcases B.tbl.mok with e | e | e <;> rw [q4, e] at hfu <;> rw [e] at hroom
      · exact .inl ⟨e, by omega⟩
      · exact .inr ⟨e, by omega⟩
      · omega
    have go : ∀ M, SetTable.sizeAbove (SetTable.grown (L.length + 1)) - 1 = M → MaskOk M → SetTable.sizeAbove (SetTable.grown (L.length + 1)) ≤ 128 → (L.length + 1) * 5 < M * 3 →
        wpAny (model P w) A (setRelay a (SetTable.grown (L.length + 1))) (fun _ z => wpAny (model P w) A (pure true) Q E z) E { s with heap := h1 } := fun M g1 g2 g3 g4 =>
      big_relay (s := { s with heap := h1 }) ho1 ⟨hex.1, hex.2.1, hex.2.2⟩ rfl hin hsz1 q3.dm (by rw [hes, q4]; rcases at7 with ⟨e, e2⟩ | ⟨e, e2⟩ <;> omega) nd1 ks1 hp1 ld1 g1 g2 g3 (by rw [hlen]; exact g4)
        fun h2 L2 es2 ep2 t2 sb2 B2 pm2 => wpAny_pure (fin true h2 L2 es2 ep2 t2 (sb.trans sb2) B2 (fun z => absurd z hm) fun _ => pm2.trans pm)
    rcases at7 with ⟨_, e2⟩ | ⟨_, e2⟩
    · exact go 31 (by rw [e2, size_20]) (.inr (.inl rfl)) (by rw [e2, size_20]; decide) (by omega)
    · exact go 127 (by rw [e2, size_76]) (.inr (.inr rfl)) (by rw [e2, size_76]; decide) (by omega)
  · first
      | refine wp_if_neg (by simp [full]) ?_
      | (refine wpAny_bind ?_; refine wp_if_neg (by simp [full]) ?_; refine wpAny_pure ?_)
    have hfu := full
    unfold SetTable.tooFull at hfu
    rw [decide_eq_true_eq, q9, List.length_map] at hfu
    exact wpAny_pure (fin true h1 L1 es1 (ep + 1) t1 sb ⟨⟨_, ho1, ⟨hex.1, hex.2.1, hex.2.2⟩, rfl⟩, hin, q3, nd1, ks1, hp1, ld1, by rw [hlen]; omega⟩ (fun z => absurd z hm) fun _ => pm)
theorem BigT.keep {h h' : Heap} (B : BigT P w h a L es ep t) (ha : ∀ o, h.get? a = some o → h'.get? a = some o) (ht : ∀ p ∈ L, IsT P w h' p.2 p.1) : BigT P w h' a L es ep t :=
  ⟨let ⟨o, ho, r⟩ := B.obj; ⟨o, ha o ho, r⟩, B.row, B.tbl, B.one, ht, B.pln, B.lg, B.rm⟩
theorem big_new {h : Heap} (ho : h.get? a = some (noSet w)) : BigT P w h a [] #[] 0 (.fresh 0 0 (!w.params.followText "set-order")) where
  obj := ⟨_, ho, ⟨rfl, rfl, rfl⟩, rfl⟩
  row := rfl
  tbl := ⟨List.Pairwise.nil, rfl, rfl, .inl rfl, fun x hx => (by cases hx), fun i h j hi => (by simp at hi)⟩
  one := List.nodup_nil
  key := fun p hp => nomatch hp
  pln := rfl
  lg := by
    show _ ∨ (!w.params.followText "set-order") = true
    cases w.params.followText "set-order"
    · exact .inr rfl
    · exact .inl rfl
  rm := by show 0 * 5 < 7 * 3; decide
/-- set.update, turn by turn -/
theorem big_update {I : Addr} {fp wr : List Addr} {G : Array GenState → Array GenState → Prop} {n : Nat} {Pv : Nat → Value → Prop} {St : Nat → Shared → Prop} {R : Result → Shared → Prop}
    (Wk : WalksS P w A.in1 I fp wr G n Pv St) (S : Addr) (hSf : S ∉ fp) (ks : List (Addr × List Int)) (hn : n = ks.length) (hfew : ks.length ≤ 76) (hval : ∀ i v, Pv i v → ∃ p, ks[i]? = some p ∧ v = .ref p.1)
    (h0 : Heap) (hk : ∀ p ∈ ks, IsT P w h0 p.2 p.1) (hS0 : h0.get? S = none) (hw0 : ∀ b ∈ wr, h0.get? b = none) (hu : A.in1.units < cLine) :
    ∀ (m i : Nat) (s : Shared), n - i = m → i ≤ n → St i s → (∀ b o, h0.get? b = some o → s.heap.get? b = some o) → (∃ L es ep t, BigT P w s.heap S L es ep t ∧ Got ks i L) →
      (∀ s' L es ep t, Moved (S :: wr) G s s' → BigT P w s'.heap S L es ep t → Got ks n L → (∀ b o, h0.get? b = some o → s'.heap.get? b = some o) → R (.ok (.ret .none)) s') →
      codeAny (model P w) A (.builtin "set.update.loop" ⟨[.ref S, .ref I], []⟩) R s := by
  have hSw : S ∉ wr := fun h => hSf (Wk.sub _ h)
  have up : ∀ b ∈ wr, b ∈ S :: wr := fun b hb => List.mem_cons_of_mem _ hb
  have kept : ∀ {s s' : Shared}, Moved wr G s s' → (∀ b o, h0.get? b = some o → s.heap.get? b = some o) → ∀ b o, h0.get? b = some o → s'.heap.get? b = some o := fun hm hkp b o e => hm.heap b o (fun hb => by rw [hw0 b hb] at e; cases e) (hkp b o e)
  intro m
  induction m with
  | zero =>
    intro i s hm' hi hst hkp ⟨L, es, ep, t, B, g⟩ hR
    obtain rfl : i = n := by omega
    refine codeAny_builtin PyProof.Rows.F.entry_set_update_loop ?_
    rw [Around.under_plainId PyProof.Rows.F.plain_set_update_loop _]
    show wpAny _ A.in1 (pyNext (.ref I) >>= _) _ _ s
    refine wpAny_bind (Wk.done s _ _ hst fun s' hm => ?_)
    show wpAny _ A.in1 (ret Value.none) _ _ s'
    have hkp' := kept hm hkp
    exact wpAny_pure (hR s' L es ep t (hm.mono up) (B.keep (fun o e => hm.heap S o hSw e) fun p hp => isT_keep (hk p (List.mem_of_mem_take (g.sub p hp))) hkp') g hkp')
  | succ m ih =>
    intro i s hm' hi hst hkp ⟨L, es, ep, t, B, g⟩ hR
    have hlt : i < n := by omega
    refine codeAny_builtin PyProof.Rows.F.entry_set_update_loop ?_
    rw [Around.under_plainId PyProof.Rows.F.plain_set_update_loop _]
    show wpAny _ A.in1 (pyNext (.ref I) >>= _) _ _ s
    refine wpAny_bind (Wk.item i s _ _ hlt hst fun v s' hP hst' hm => ?_)
    obtain ⟨p, hp, rfl⟩ := hval i v hP
    have hkp' := kept hm hkp
    have B' : BigT P w s'.heap S L es ep t := B.keep (fun o e => hm.heap S o hSw e) fun q hq => isT_keep (hk q (List.mem_of_mem_take (g.sub q hq))) hkp'
    have hx : IsT P w s'.heap p.2 p.1 := isT_keep (hk p (List.mem_of_getElem? hp)) hkp'
    show wpAny _ A.in1 (holding [Value.ref p.1] (setAdd S (.ref p.1)) >>= _) _ _ s'
    refine wpAny_bind (wpAny_holding ?_)
    unfold setAdd
    refine wpAny_holding (wpAny_bind (wpAny_pyHash_tuple hu hx ?_))
    refine big_add (s := { s' with toks := s'.toks + (p.2.length + 1) }) B' hx hu (by have := g.len; omega) fun b h' L' es' ep' t' hsb B2 c1 c2 => ?_
    have g' : Got ks (i + 1) L' := (Classical.em (p.2 ∈ L.map (·.2))).elim (fun c => by rw [c1 c]; exact g.same hp c) fun c => g.more hp (c2 c)
    have hkp2 : ∀ b o, h0.get? b = some o → h'.get? b = some o := fun b o e => (hsb.2 b (fun z => by rw [z, hS0] at e; cases e)).trans (hkp' b o e)
    refine wpAny_pure ⟨plainId_quiet PyProof.Rows.F.plain_set_update_loop _, ih (i + 1) _ (by omega) hlt (Wk.frame _ s' _ _ hst' (Nat.le_add_right _ _) fun b hb o e => ?_) hkp2 ⟨L', es', ep', t', B2, g'⟩ fun s'' L2 es2 ep2 t2 hm'' B'' g'' hkp'' => ?_⟩
    · rw [hsb.2 b fun z => hSf (by rw [← z]; exact hb)]; exact e
    · refine hR s'' L2 es2 ep2 t2 (Moved.trans Wk.gtrans ((hm.mono up).then_heap (Nat.le_add_right _ _) fun b o hb e => ?_) hm'') B'' g'' hkp''
      rw [hsb.2 b fun z => hb (by rw [z]; exact List.mem_cons_self)]; exact e
end
/-! ### set(xs), sorted(set(xs)) -/
section
variable {P : Program} {w : World} {A : Around} {E : Value → Shared → Prop} {s : Shared}
theorem call_setBig {l : Addr} {items : Array Value} (ks : List (Addr × List Int)) {Q : Value → Shared → Prop} (hh : A.handled = none) (hl : s.heap.IsList l items) (hit : items.toList = ks.map fun p => Value.ref p.1)
    (hk : ∀ p ∈ ks, IsT P w s.heap p.2 p.1) (hf : ks.length ≤ 76) (hu : A.units + 3 < cLine)
    (fin : ∀ (h' : Heap) (tk : Nat) L es ep t, BigT P w h' s.heap.objs.size L es ep t → Got ks ks.length L → (∀ b o, s.heap.get? b = some o → h'.get? b = some o) → Q (.ref s.heap.objs.size) { s with heap := h', toks := tk }) :
    wpAny (model P w) A (call (.type "set") [.ref l]) Q E s := by
  have n0 : items.size = ks.length := by
    have q := congrArg List.length hit
    simpa using q
  obtain ⟨c, tl, hmro⟩ := PySem.F.called_set.mro
  have hmade := PySem.F.called_set.made
  have hsub := PySem.F.called_set.sub
  refine wpAny_call (codeAny_of_tree ?_)
  show wpAny _ _ (callAny (.type "set") _) _ _ _
  refine wpAny_pure ⟨Code.quiet_builtin _ (by decide +kernel), codeAny_builtin PySem.F.entry_type_call ?_⟩
  rw [Around.under_plain (weight_type_call_type "set" [.ref l] []) rfl]
  have h1 := PySem.F.called_set.notType
  have h2 := PySem.F.called_set.canCreate
  have hct := PySem.F.typeCall_set_1 (.ref l)
  repeat (any_goals (first | assumption | wp_step))
  refine codeAny_mono (code_set_led1 (.ref l) (E := E) (Q₁ := fun ob z => ob = .ref s.heap.objs.size ∧ z = { s with heap := s.heap.push (noSet w) }) ⟨rfl, rfl⟩) fun r z hr => ?_
  cases r with
  | error e => exact hr
  | ok fl =>
    cases fl with
    | ret ob =>
      obtain ⟨rfl, rfl⟩ := hr
      have hS : (s.heap.push (noSet w)).get? s.heap.objs.size = some (noSet w) := Heap.get?_push_size _ rfl
      have hT : Shared.TypeIs { s with heap := s.heap.push (noSet w) } (.ref s.heap.objs.size) "set" := ⟨_, hS, rfl⟩
      have hli := PySem.F.called_set.init.lookup
      have hbi := PySem.F.called_set.init.bind (.ref s.heap.objs.size)
      repeat (any_goals (first | assumption | wp_step))
      refine codeAny_mono (codeAny_call_builtin (R := wants (fun r z => r = .none ∧ ∃ h' tk L es ep t, z = { s with heap := h', toks := tk } ∧ BigT P w h' s.heap.objs.size L es ep t ∧ Got ks ks.length L ∧ (∀ b o, s.heap.get? b = some o → h'.get? b = some o)) E)
        PySem.F.called_set.init.plain PySem.F.entry_set_init (check_set_init_1 hT ?_)) fun r z hz => ?_
      · obtain ⟨⟨oc, od, oda, osl⟩, ho, hc, nl, hd⟩ := hl
        simp only at hc hd
        subst hc hd
        have ho' : (s.heap.push (noSet w)).get? l = some { cls := .type "list", dict := od, data := .seq items nl, slots := osl } := Heap.get?_push_of_some _ ho
        have f1 := PySem.F.sub_list_set
        have f2 := PySem.F.sub_list_frozenset
        have f3 : (Value.type "list" == Value.type "dict") = false := by decide
        have f4 : (s.heap.push (noSet w)).IsList l items := ⟨_, ho', rfl, nl, rfl⟩
        unfold Builtin.«set.__init__» noKeywords Builtin.Frozenset.updateFrom
        generalize hPI : pyIter = PI
        wp_walk
        subst hPI
        refine wpAny_pyIter_list f4 (wpAny_bind (wpAny_runValue ?_))
        have lt : l < s.heap.objs.size := Heap.lt_size ho
        have hh3 : A.in1.in1.in1.handled = none := by simp [hh]
        have ne1 : l ≠ (s.heap.push (noSet w)).objs.size := by
          rw [Heap.size_push]; exact Nat.ne_of_lt (Nat.lt_succ_of_lt lt)
        have ne2 : s.heap.objs.size ∉ [(s.heap.push (noSet w)).objs.size, l] := by
          rw [Heap.size_push]; simp only [List.mem_cons, List.not_mem_nil, or_false, not_or]; exact ⟨Nat.ne_of_lt (Nat.lt_succ_self _), Nat.ne_of_gt lt⟩
        have hv : ∀ (i : Nat) (v : Value), items[i]? = some v → ∃ p, ks[i]? = some p ∧ v = .ref p.1 := fun i v hv => by
          have q : items.toList[i]? = some v := by rw [Array.getElem?_toList]; exact hv
          rw [hit, List.getElem?_map] at q
          cases e : ks[i]? with
          | none => rw [e] at q; cases q
          | some p => rw [e] at q; exact ⟨p, rfl, (Option.some.inj q).symm⟩
        have free : ∀ b, s.heap.objs.size ≤ b → s.heap.get? b = none := fun b hb => by
          cases q : s.heap.get? b with
          | none => rfl
          | some o => exact absurd (Nat.lt_of_lt_of_le (Heap.lt_size q) hb) (Nat.lt_irrefl _)
        refine big_update ((Walks.list hh3 _ l ne1 items).toS) s.heap.objs.size ne2 ks n0 hf hv s.heap hk (free _ (Nat.le_refl _)) (fun b hb => free b (by rw [List.mem_singleton.mp hb, Heap.size_push]; exact Nat.le_succ _)) hu (items.size - 0) 0 _ (by omega) (Nat.zero_le _)
          ⟨⟨_, Heap.get?_push_size _ rfl, rfl, rfl⟩, (f4.push _)⟩ (fun b o e => Heap.get?_push_of_some _ (Heap.get?_push_of_some _ e)) ?_ ?_
        · exact ⟨[], #[], 0, _, big_new (Heap.get?_push_of_some _ hS), Got.zero ks⟩
        · intro s' L es ep t hm hS' g' hkp
          obtain ⟨h', g2, d', tk', os'⟩ := s'
          have eg : g2 = s.gens := hm.gens
          have ed : d' = s.drawn := hm.drawn
          have eo : os' = s.os := hm.os
          subst eg ed eo
          refine wpAny_pure ?_
          show wpAny _ _ (ret Value.none) _ _ _
          rw [n0] at g'
          exact wpAny_pure ⟨rfl, h', tk', L, es, ep, t, rfl, hS', g', hkp⟩
      · cases r with
        | error e => exact hz
        | ok fl2 =>
          cases fl2 with
          | ret r =>
            obtain ⟨rfl, h', tk, L, es, ep, t, rfl, hS', g', hk'⟩ := hz
            repeat (any_goals (first | assumption | wp_step))
            exact fin _ _ _ _ _ _ hS' g' hk'
          | _ => exact hz.elim
    | _ => exact hr.elim
end
/-- .. without its tuples -/
def BigB (P : Program) (w : World) (h : Heap) (a : Addr) (L : List (Addr × List Int)) : Prop := ∃ (es : Array (Int × Value)) (ep : Nat) (t : SetTable), (∃ o, h.get? a = some o ∧ o.ExactSet ∧ o.data = .set es ep t) ∧ es.toList = rowsOf P w L ∧ L2.TabOk t (L.map fun p => thash P w p.2) ∧ (L.map (·.2)).Nodup ∧ t.plain = true ∧
    (w.params.followText "set-order" = true ∨ t.led = true) ∧ L.length * 5 < t.mask * 3
def BigO (P : Program) (w : World) (a : Addr) (L : List (Addr × List Int)) : HO := .ext fun h => BigB P w h a L
theorem bigO_new {P : Program} {w : World} {H : Hp} {h : Heap} {a : Addr} {L : List (Addr × List Int)} (R : BigB P w h a L) : ObjOk P w H h a (BigO P w a L) := by
  have ⟨es, ep, t, ⟨o, ho, r⟩, q⟩ := R
  refine ⟨R, ⟨o, ho⟩, fun h1 h2 p k => ?_⟩
  have ⟨es', ep', t', ⟨o', ho', r'⟩, q'⟩ := p
  exact ⟨es', ep', t', ⟨o', k o' ho', r'⟩, q'⟩
def rSetBig (K : PySem.W.Frag) (P : Program) (w : World) : List V → Hp → VK → Prop := fun xs H Q => ∃ (l : Addr) (ks : List (Addr × List Int)), xs = [V.ref l] ∧ SqL K H l (ks.map fun p => V.ref p.1) ∧ (∀ p ∈ ks, SqT K H p.1 (p.2.map V.int)) ∧ ks.length ≤ 76 ∧
  ∀ a L, H a = none → (∀ p ∈ L, p ∈ ks) → (∀ p ∈ ks, p.2 ∈ L.map (·.2)) → Q (.ref a) (upd H a (BigO P w a L))
def rSortBig (K : PySem.W.Frag) (P : Program) (w : World) : List V → Hp → VK → Prop := fun vs H Q => ∃ (a : Addr) (L : List (Addr × List Int)) (Av : AS), vs = [V.ref a] ∧ H a = some (BigO P w a L) ∧ (∀ p ∈ L, SqT K H p.1 (p.2.map V.int)) ∧ (∀ p ∈ L, Rep K Av H (tupI p.2) (.ref p.1)) ∧
  ((L.map (·.2)).Nodup → ∀ (ys : List V) (p : Addr), Reps K Av H (((L.map (·.2)).mergeSort leR).map tupI) ys → H p = none → Q (.ref p) (upd H p (.lst ys)))
/-- sorted(set(xs)) -/
def dSortBig (t : DE) : DE := fun env k x => t env (fun d e => ∃ ls : List (List Int), d = .lst (ls.map tupI) ∧ ls.length ≤ 76 ∧ ∀ ms : List (List Int), ms.Pairwise (· ≤ ·) → ms.Nodup → (∀ z, z ∈ ms ↔ z ∈ ls) → k (.lst (ms.map tupI)) e) x
section
variable {X : Cx} {W : HW} {e : Expr} {p q pos : Pos} {t : DE}
theorem cr_setBig (hc : X.calm = true) (hu : X.A.units + 64 < cLine) : CallR X (.type "set") (rSetBig X.K X.prog X.w) := by
  intro pins s σ H xs us Q I r h
  obtain ⟨l, ks, rfl, hl, hk, hf, q⟩ := h
  rw [Vals.ref1 r]
  obtain ⟨its, rv, pl, hz⟩ := I.list hl
  have hn : H s.heap.objs.size = none := I.hok.fresh (Nat.le_refl _)
  refine call_setBig (P := X.prog) (w := X.w) ks (I.ok.hd hc) pl.isList (by simpa using refs_of_vals rv) (fun p hp => I.isT (hk p hp)) hf (by omega) fun h' tk L es ep t R g k => ?_
  exact ⟨.ref s.heap.objs.size, upd H s.heap.objs.size (BigO X.prog X.w s.heap.objs.size L), I.laid (t' := tk) k (Nat.le_refl _) (bigO_new ⟨es, ep, t, R.obj, R.row, R.tbl, R.one, R.pln, R.lg, R.rm⟩), rfl, q _ L hn (fun p hp => List.mem_of_mem_take (g.sub p hp)) fun p hp => g.all p (by rw [List.take_length]; exact hp)⟩
theorem cr_sortBig (hc : X.calm = true) (hu : X.A.units + 65 < cLine) : CallR X (.builtin "sorted") (rSortBig X.K X.prog X.w) := by
  intro pins s σ H vs us Q I r h
  obtain ⟨a, L, Av, rfl, ha, hk, hrp, q⟩ := h
  have R0 : BigB X.prog X.w s.heap a L := (I.hok a _ ha).1
  obtain ⟨es, ep, t, b1, b2, b3, b4, b5, b6, b7⟩ := R0
  have R : BigT X.prog X.w s.heap a L es ep t := ⟨b1, b2, b3, b4, fun p hp => I.isT (hk p hp), b5, b6, b7⟩
  rw [Vals.ref1 r]
  obtain ⟨o, ho, hex, hd⟩ := R.obj
  have hsz := R.size
  have hfew := R.few
  refine sorted_gen (H := H) (Av := Av) hu fun R' hR => ?_
  refine collect_set (A := X.A.in1) (I.ok.hd hc) ⟨o, ho, hex.1, hd⟩ R.fits (by unfold scanBound; omega) R.tbl.ris R.lg fun s1 vs k1 hz g1 o1 pm => ?_
  have hes : es.toList.map (·.2) = L.map fun q => Value.ref q.1 := by
    rw [R.row]
    unfold rowsOf
    rw [List.map_map]; rfl
  rw [hes] at pm
  have ord : ∀ vs : List Value, (∀ v ∈ vs, ∃ q ∈ L, v = Value.ref q.1) → ∃ L1 : List (Addr × List Int), vs = L1.map (fun q => Value.ref q.1) ∧ ∀ q ∈ L1, q ∈ L := by
    intro vs
    induction vs with
    | nil => intro _; exact ⟨[], rfl, fun q hq => nomatch hq⟩
    | cons v vs ih =>
      intro hv
      obtain ⟨q, hq, e⟩ := hv v List.mem_cons_self
      obtain ⟨L1, e1, hs⟩ := ih fun u hu => hv u (List.mem_cons_of_mem _ hu)
      exact ⟨q :: L1, by rw [List.map_cons, e, e1], fun r hr => (List.mem_cons.mp hr).elim (fun z => by rw [z]; exact hq) (hs r)⟩
  have one : ∀ q ∈ L, ∀ r ∈ L, q.1 = r.1 → q = r := fun q hq r hr e => by
    have a1 := R.key q hq
    have a2 := R.key r hr
    rw [e] at a1
    exact Prod.ext e (a1.inj a2)
  obtain ⟨L1, e1, hs1⟩ := ord vs fun v hv => by
    obtain ⟨q, hq, e⟩ := List.mem_map.mp (pm.mem_iff.mp hv)
    exact ⟨q, hq, e.symm⟩
  have p1 : L1.Perm L := by
    have nL : L.Nodup := nodup_of_map R.one
    have nref : (L.map fun q => Value.ref q.1).Nodup := List.pairwise_map.mpr (List.Pairwise.imp_of_mem (fun {q r} hq hr hne e => by injection e with e; exact hne (one q hq r hr e)) nL)
    rw [e1] at pm
    refine (List.perm_ext_iff_of_nodup (nodup_of_map (pm.nodup_iff.mpr nref)) nL).mpr fun q => ⟨hs1 q, fun hq => ?_⟩
    obtain ⟨r, hr, e⟩ := List.mem_map.mp (pm.mem_iff.mpr (List.mem_map.mpr ⟨q, hq, rfl⟩))
    injection e with e
    rw [← one r (hs1 r hr) q hq e]
    exact hr
  have hreps : ∀ M : List (Addr × List Int), (∀ q ∈ M, q ∈ L) → Reps X.K Av H ((M.map (·.2)).map tupI) (M.map fun q => V.ref q.1) := by
    intro M
    induction M with
    | nil => intro _; rfl
    | cons m M ih => intro h; exact ⟨_, _, rfl, hrp m (h m List.mem_cons_self), ih fun q hq => h q (List.mem_cons_of_mem _ hq)⟩
  rw [e1]
  refine hR s1 _ _ _ (I.call' (ch := []) o1 (Un.kept k1) (I.hok.kept k1) (by rw [g1]; exact I.bare) fun _ z => nomatch z) (vals_of_refs L1) (hreps L1 hs1) (sortOk_tups _) ?_ fun ys p h1 h2 => q R.one ys p ?_ h2
  · rw [List.length_map, List.length_map, p1.length_eq, sizeLine_eq]; omega
  · rw [sortD_tups, sortR_perm (p1.map _)] at h1
    exact h1
theorem de_sortBig (hc : X.calm = true) (hu : X.A.units + 65 < cLine) (hg : Gl X "sorted") (hm : X.mg "sorted" = none) (hg2 : Gl X "set") (hm2 : X.mg "set" = none) (h : PE X e (up X.K W t)) {p2 : Pos}
    (na : starEach [.Call (.Name "set" q) [e] [] p] X.env = (false, eval (.Call (.Name "set" q) [e] [] p) X.env) :: starEach [] X.env := by rfl) (nb : starEach [e] X.env = (false, eval e X.env) :: starEach [] X.env := by rfl) :
    PE X (.Call (.Name "sorted" p2) [.Call (.Name "set" q) [e] [] p] [] pos) (upF X.K W (dSortBig t)) := by
  refine pe_conv (pe_callB (cr_sortBig hc hu) hg hm PyProof.Rows.boot_sorted (pa_cons (pe_callTy (cr_setBig hc (by omega)) hg2 hm2 PyProof.Rows.boot_set (pa_cons h pa_nil nb) (by decide) (by decide) nb rfl) pa_nil na) (by decide) (by decide) na rfl) fun σ H Q h => ?_
  obtain ⟨C, M, env, k, x, R, h, hk, hx⟩ := h
  refine ⟨C, M, env, _, x, R, h, fun a e1 v H1 M1 h1 R1 k1 g1 r1 => ?_, hx⟩
  obtain ⟨ls, rfl, hl, kd⟩ := h1
  obtain ⟨a, vs, rfl, na, ha, hr⟩ := r1
  obtain ⟨ks, rfl, e2, h3⟩ := rep_tups hr
  refine ⟨a, ks, rfl, SqL.of ha, fun p hp => (h3 p hp).1, by rw [← e2, List.length_map] at hl; exact hl, fun b L hb hsub hall => ?_⟩
  have sm : Same H1 (upd H1 b (BigO X.prog X.w b L)) := same_new hb
  refine ⟨b, L, fun a => (C.G a ∨ M1 a) ∨ a = b, rfl, upd_same, fun p hp => sqt_same sm (h3 p (hsub p hp)).1, fun p hp => ?_, fun nd ys t hy ht => ?_⟩
  · exact Rep.mono (fun c o e _ => sm c o e) (fun c hn z => z.elim id fun z => absurd hb (z ▸ hn)) _ _ (h3 p (hsub p hp)).2
  · have ht1 : H1 t = none := by
      cases e : H1 t with
      | none => rfl
      | some o => rw [sm t o e] at ht; cases ht
    have sm2 : Same H1 (upd (upd H1 b (BigO X.prog X.w b L)) t (.lst ys)) := fun c o e => same_new ht c o (sm c o e)
    refine (R1.finF k1 g1 (kd ((L.map (·.2)).mergeSort leR) (sortR_sorted _) ?_ fun z => ?_) hk) t _ _ sm2 ht1 ⟨rfl, ys, upd_same, ?_⟩
    · exact (List.mergeSort_perm _ _).nodup_iff.mpr nd
    · rw [List.mem_mergeSort, ← e2]
      refine ⟨fun hz => ?_, fun hz => ?_⟩
      · obtain ⟨p, hp, rfl⟩ := List.mem_map.mp hz
        exact List.mem_map.mpr ⟨p, hsub p hp, rfl⟩
      · obtain ⟨p, hp, rfl⟩ := List.mem_map.mp hz
        exact hall p hp
    · refine Reps.mono (fun c o e _ => same_new ht c o e) (fun c hn z => ?_) _ _ hy
      rcases z with z | z
      · exact .inl z
      · exact absurd ht (z ▸ hn)
end
end FX

set_option Elab.async false
set_option linter.all false
set_option maxRecDepth 100000
set_option maxHeartbeats 4000000
/-! FxT: refusals whose context is None; their kind told by a comprehension within the suite -/
namespace FX
open PySem PySem.Spec PyProof.Rows L2
theorem takes0N {X : Cx} : L2N.Takes X (fun _ _ _ _ => False) := fun _ _ x => by
  obtain ⟨_, _, _, _, _, _, _, _, _, _, _, _, _, _, _, _, z⟩ := x
  exact z.elim
section
variable {X : Cx} {W : HW} {fr : Bool} {x m : Str} {C : Addr} {p p2 pos pos' : Pos} {j : Nat}
theorem ds_raiseN {E : XK} (hc : X.calm = true) (tk : L2N.Takes X (fun cls d _ H => E cls d H)) (F : XCls X.K X.mg x C) (hg : Gl X x) (hdb : (x == ("__debug__" : Str)) = false := by decide) :
    PS X (.Raise (some (.Call (.Name x p) [.Constant (.str m) j p2] [] pos)) none pos') (upS X.K (EWx X.mg E) fr (sRaise x)) := by
  refine ps_conv (L2N.ps_raise hc tk (L2N.pmk_own PySem.F.excBase_ValueError F.q F.g F.k (raises_own F.b F.t) hg hdb)) fun D σ H h => ?_
  obtain ⟨C0, M, env, k, R, h, hn, hr, hx, _⟩ := h
  obtain ⟨_, C', e, hE⟩ := hx (x, none) env σ H M h R (.refl _ _) (.refl _ _)
  rw [F.g] at e
  cases e
  exact hE
/-- a def that may refuse, called where its refusal may go on -/
theorem de_f0X {k : Nat} {f : Addr} {fd : FuncData} {ps : List Str} {e : Expr} {es : List Expr} {t : DA} {φ : F0} {E : XK} (tk : L2N.Takes X (fun cls d _ H => E cls d H)) (F : FnOk X.prog X.w X.K X.mg X.base (L2N.CX X.prog X.w) k f fd ps (spF0 X.K (EWx X.mg) false φ)) (hr : Room k X.A) (hg : Gl X x) (hm : X.mg x = some (.ref f)) (hk : PySem.W.keepIn X.K (.ref f) = true) (hb : Binds X.K fd ps [])
    (ha : PA X (e :: es) (upA X.K (EWx X.mg E) t)) (hdb : (x == ("__debug__" : Str)) = false := by decide) (he : starEach (e :: es) X.env = (false, eval e X.env) :: starEach es X.env := by rfl) (hpl : (backTo pos (starEach es X.env)).any (·.1) = false := by rfl) :
    PE X (.Call (.Name x p) (e :: es) [] pos) (up X.K (EWx X.mg E) (dF0 φ t)) :=
  pe_conv (pe_call (E := E) F hr hg hm hk hb .nil (fun pins σ H s e s' I c => L2N.passes_call tk (fun _ _ _ _ h => h) pins σ H s e s' I c) ha hdb he hpl) fun _ _ _ => sim_f0 (fun _ _ z => z) (fun _ _ z => z)
end
theorem fn_F0N {P : Program} {w : World} {K : PySem.W.Frag} {mg : Str → Option Value} {base : Heap} {x qual : Str} {st : Stmt} {f : Addr} {fd : FuncData} {N ps : List Str} {k n : Nat} {φ : F0} {t : DS} (F : Fun K x qual st f fd) (S : FnScope N ps (defScope st)) (hn : ps.length = n)
    (ht : ∀ ds k x, φ ds k x → ds.length = n ∧ t (endF0 false k x) (envF0 N ds))
    (der : ∀ (cdv : Value) (A : Around) (outer : List PySem.Env) (s : Shared) (H : Hp) (E : XK), Room k (A.deeper (envOfC qual (defScope st) s.heap.objs.size f cdv)) → PSs (cxOf (L2N.CX P w) P w K mg base N qual (defScope st) f cdv A outer s H E) (defBody st) (upS K (EWx mg E) false t)) :
    FnOk P w K mg base (L2N.CX P w) (k + 1) f fd ps (spF0 K (EWx mg) false φ) := by
  obtain ⟨oc, od, kV, doc, pm, an, cdv, ct, osl, rfl, lk, hcd⟩ := F.ex
  refine fn_of lk hcd S (fun vs H Q E h => ?_) fun A outer s H vs Q E hr h => ⟨_, der cdv A outer s H E hr, body_F0 (EW := EWx mg) h fun ds k x q => (ht ds k x q).2⟩
  obtain ⟨Av, ds, k, x, av, r, hφ, _⟩ := h
  rw [r.length, (ht ds k x hφ).1, hn]
theorem fn_calmN {P : Program} {w : World} {K : PySem.W.Frag} {mg : Str → Option Value} {base : Heap} {k : Nat} {f : Addr} {fd : FuncData} {ps : List Str} {φ ψ : F0} (F : FnOk P w K mg base (L2N.CX P w) k f fd ps (spF0 K (EWx mg) false φ)) (h : ∀ ds k x, ψ ds k x → φ ds k (fun _ => False)) : FnOk P w K mg base CX0 k f fd ps (spF0 K EW0 false ψ) where
  len := fun vs H Q E hq => by
    obtain ⟨Av, ds, k, x, av, r, hφ, hk, hx⟩ := hq
    exact F.len vs H Q E ⟨Av, ds, k, fun _ => False, av, r, h ds k x hφ, hk, fun e H' z => z.elim⟩
  run := fun A outer s H args us vs Q E hr e0 hb hv hq => by
    obtain ⟨Av, ds, k, x, av, r, hφ, hk, hx⟩ := hq
    refine codeAny_mono (F.run A outer s H args us vs Q (fun _ _ _ => False) hr e0 hb hv ⟨Av, ds, k, fun _ => False, av, r, h ds k x hφ, hk, fun e H' z => z.elim⟩) fun rs s' hc => ?_
    cases rs with
    | ok fl => cases fl <;> exact hc
    | error e =>
      have hc : L2N.CX P w outer H s (fun _ _ _ => False) e s' := hc
      obtain ⟨_, _, _, _, _, _, _, _, _, _, _, _, z⟩ := hc
      exact z.elim
/-- a def that is never called -/
theorem fn_none {P : Program} {w : World} {K : PySem.W.Frag} {mg : Str → Option Value} {base : Heap} {CX : CXT} {k : Nat} {f : Addr} {fd : FuncData} {ps : List Str} {EW : XK → HW} {fr : Bool} : FnOk P w K mg base CX k f fd ps (spF0 K EW fr fun _ _ _ => False) where
  len := fun vs H Q E hq => by
    obtain ⟨Av, ds, k, x, av, r, hφ, _⟩ := hq
    exact hφ.elim
  run := fun A outer s H args us vs Q E hr e0 hb hv hq => by
    obtain ⟨Av, ds, k, x, av, r, hφ, _⟩ := hq
    exact hφ.elim
/-- isinstance(e, Y) within the suite: slot 5 holds what is handled, of class D -/
def tIsE (K : PySem.W.Frag) (a D Dy : Addr) : TE := fun σ H Q => σ[5]? = some (some (.ref a)) ∧ ∃ b, PySem.W.kitOne K (.ref D) (.ref Dy) = some b ∧ Q (.bl b) H
section
variable {X : Cx} {a D : Addr} {oe : Obj} {pn : List (Addr × Obj)} {n y : Str} {p2 p3 p4 p5 : Pos}
theorem pe_isE {Dy : Addr} (hz : Zc (.ref D) none oe) (hfs : ∃ vs, oe.data = .fields vs) (cl : ExcC X.K D) (hi : X.N[5]? = some n) (hln : X.env.kindOf n = some .local) (hI : Gl X "isinstance") (hmI : X.mg "isinstance" = none) (hgy : Gl X y) (gy : X.mg y = some (.ref Dy)) (hdy : (y == ("__debug__" : Str)) = false := by decide)
    (hdn : (n == ("__debug__" : Str)) = false := by decide) (hcn : (n == ("__classdict__" : Str)) = false := by decide) (he : starEach [.Name n p3, .Name y p4] X.env = (false, eval (.Name n p3) X.env) :: starEach [.Name y p4] X.env := by rfl) (hpl : (backTo p5 (starEach [.Name y p4] X.env)).any (·.1) = false := by rfl) :
    PE (X.suite a ((a, oe) :: pn)) (.Call (.Name "isinstance" p2) [.Name n p3, .Name y p4] [] p5) (tIsE X.K a D Dy) := by
  refine pe_conv (pe_callB (X := X.suite a ((a, oe) :: pn)) (call_isE (X := X) cl hz hfs) hI hmI PyProof.Rows.boot_isinstance (pa_cons (pe_var hi (.inl hln) hdn hcn) (pa_cons (pe_glob (v := .ref Dy) hgy gy rfl hdy) pa_nil))) fun σ H Q h => ?_
  obtain ⟨h1, b, h2, h3⟩ := h
  exact ⟨_, h1, .ref Dy, .ref Dy, b, rfl, fun u r => r, h2, h3⟩
end
/-- the names of the def that tells the kind -/
def kN : List Str := ["way", "one", "two", "three", "kin", "e", "some", "words", "word", "is_it"]
def kScope : Scope := { kind := PySem.ScopeKind.function, names := [(PySem.Str.ofString ".0", PySem.NameKind.local), (PySem.Str.ofString "word", PySem.NameKind.local), (PySem.Str.ofString "is_it", PySem.NameKind.local)], isGenerator := false, isCoroutine := false, more := [] }
/-- what is asked of the def around -/
structure KX (X : Cx) : Prop where
  N : X.N = kN
  loc : ∀ x ∈ (["kin", "e", "some", "words"] : List Str), X.env.scope.names.lookup x = some .local
  gl : ∀ x ∈ (["isinstance", "NoLookers", "NoLot", "NoPlan", "NoTree", "NoWarren", "zip"] : List Str), Gl X x
  bi : X.mg "isinstance" = none
  bz : X.mg "zip" = none
  ok : BlkOk X.N X.env.scope kScope [("word", 8), ("is_it", 9)]
/-- the five classes that are asked for -/
structure K5 (mg : Str → Option Value) (D1 D2 D3 D4 D5 : Addr) : Prop where
  g1 : mg "NoLookers" = some (.ref D1)
  g2 : mg "NoLot" = some (.ref D2)
  g3 : mg "NoPlan" = some (.ref D3)
  g4 : mg "NoTree" = some (.ref D4)
  g5 : mg "NoWarren" = some (.ref D5)
def kWs : List Str := ["NoLookers", "NoLot", "NoPlan", "NoTree", "NoWarren"]
def pickW (bs : List Bool) : List Str := ((kWs.zip bs).filter (·.2)).map (·.1)
/-- the suite: one of the words becomes the kind -/
def tKind (K : PySem.W.Frag) (a D D1 D2 D3 D4 D5 : Addr) : TS := fun Dd σ H => ∃ (s0 s1 s2 s3 s4 s6 s7 s8 s9 : Option V) (b1 b2 b3 b4 b5 : Bool) (w : Str), σ = [s0, s1, s2, s3, s4, some (.ref a), s6, s7, s8, s9] ∧
  PySem.W.kitOne K (.ref D) (.ref D1) = some b1 ∧ PySem.W.kitOne K (.ref D) (.ref D2) = some b2 ∧ PySem.W.kitOne K (.ref D) (.ref D3) = some b3 ∧ PySem.W.kitOne K (.ref D) (.ref D4) = some b4 ∧ PySem.W.kitOne K (.ref D) (.ref D5) = some b5 ∧
  pickW [b1, b2, b3, b4, b5] = [w] ∧ ∀ v6 v7 H', Same H H' → Dd.nx [s0, s1, s2, s3, some (.str w), some (.ref a), v6, v7, s8, s9] H'
theorem sim_kind {K : PySem.W.Frag} {a D D1 D2 D3 D4 D5 : Addr} {Dd : Ends} {σ : L2.St} {H : Hp} (h : tKind K a D D1 D2 D3 D4 D5 Dd σ H) :
    tSeq (tAsg (tLst (tCons (tIsE K a D D1) (tCons (tIsE K a D D2) (tCons (tIsE K a D D3) (tCons (tIsE K a D D4) tNil))))) (gName 6))
    (tSeq (tAsg (tLst (tCons (tC (V.str "NoLookers")) (tCons (tC (V.str "NoLot")) (tCons (tC (V.str "NoPlan")) (tCons (tC (V.str "NoTree")) (tCons (tC (V.str "NoWarren")) tNil)))))) (gName 7))
      (tAsg (tM1 (fun x xs H Q => ∃ a_1 p, ∃ ys : List Str, x = V.str a_1 ∧ xs = [V.ref p] ∧ (SqL K H p (List.map V.str ys) ∨ SqT K H p (List.map V.str ys)) ∧ (List.map (fun x => x.length) ys).sum + ys.length * a_1.length ≤ 16777216 ∧ Q (V.str (Txt.join a_1 ys)) H)
          (tC (V.str " ")) (tLcZ K (tCons (tVar 7) (tCons (tOp rCat (tVar 6) (tLst (tCons (tIsE K a D D5) tNil))) tNil)) (gTup K 2 (gCons (gName 8) (gCons (gName 9) gNil))) (fun σ H Q => tVar 9 σ H fun x H' => ∃ k, TruV K x H' k ∧ Q k H') (tVar 8) [8, 9])) (gName 4)))
    Dd σ H := by
  obtain ⟨s0, s1, s2, s3, s4, s6, s7, s8, s9, b1, b2, b3, b4, b5, w, rfl, e1, e2, e3, e4, e5, hw, hn⟩ := h
  have sz : ∀ n : Nat, n ≤ 5 → n ≤ sizeLine := fun n hn => by rw [line_eq]; omega
  refine ⟨rfl, b1, e1, rfl, b2, e2, rfl, b3, e3, rfl, b4, e4, sz 4 (by decide), fun p1 n1 => ?_⟩
  refine ⟨sz 5 (by decide), fun p2 n2 => ?_⟩
  refine ⟨⟨" ", rfl⟩, .ref p2, rfl, .ref p1, rfl, rfl, b5, e5, sz 1 (by decide), fun p3 n3 => ?_⟩
  have ne12 : p1 ≠ p2 := fun q => by rw [q, upd_same] at n2; cases n2
  have ne13 : p1 ≠ p3 := fun q => by rw [← q, upd_ne ne12, upd_same] at n3; cases n3
  have ne23 : p2 ≠ p3 := fun q => by rw [← q, upd_same] at n3; cases n3
  refine ⟨p1, p3, [V.bl b1, V.bl b2, V.bl b3, V.bl b4], [V.bl b5], rfl, rfl, ?_, upd_same, sz 5 (by decide), fun p4 n4 => ?_⟩
  · rw [upd_ne ne13, upd_ne ne12, upd_same]
  have ne24 : p2 ≠ p4 := fun q => by rw [← q, upd_ne ne23, upd_same] at n4; cases n4
  refine ⟨p2, p4, kWs.map V.str, [b1, b2, b3, b4, b5].map V.bl, rfl, SqL.of ?_, SqL.of ?_, rfl, fun L nL => ?_⟩
  · rw [upd_ne ne24, upd_ne ne23, upd_same]; rfl
  · rw [upd_same]; rfl
  have neL2 : p2 ≠ L := fun q => by rw [← q, upd_ne ne24, upd_ne ne23, upd_same] at nL; cases nL
  have neL4 : p4 ≠ L := fun q => by rw [← q, upd_same] at nL; cases nL
  have sm4 : Same H (upd (upd (upd (upd H p1 (.lst [V.bl b1, V.bl b2, V.bl b3, V.bl b4])) p2 (.lst [V.str "NoLookers", V.str "NoLot", V.str "NoPlan", V.str "NoTree", V.str "NoWarren"])) p3 (.lst [V.bl b5])) p4 (.lst ([V.bl b1, V.bl b2, V.bl b3, V.bl b4] ++ [V.bl b5]))) := fun b x q => same_new n4 b x (same_new n3 b x (same_new n2 b x (same_new n1 b x q)))
  have q2 : (upd (upd (upd (upd H p1 (.lst [V.bl b1, V.bl b2, V.bl b3, V.bl b4])) p2 (.lst [V.str "NoLookers", V.str "NoLot", V.str "NoPlan", V.str "NoTree", V.str "NoWarren"])) p3 (.lst [V.bl b5])) p4 (.lst ([V.bl b1, V.bl b2, V.bl b3, V.bl b4] ++ [V.bl b5]))) p2 = some (.lst (kWs.map V.str)) := by rw [upd_ne ne24, upd_ne ne23, upd_same]; rfl
  have q4 : (upd (upd (upd (upd H p1 (.lst [V.bl b1, V.bl b2, V.bl b3, V.bl b4])) p2 (.lst [V.str "NoLookers", V.str "NoLot", V.str "NoPlan", V.str "NoTree", V.str "NoWarren"])) p3 (.lst [V.bl b5])) p4 (.lst ([V.bl b1, V.bl b2, V.bl b3, V.bl b4] ++ [V.bl b5]))) p4 = some (.lst ([b1, b2, b3, b4, b5].map V.bl)) := by rw [upd_same]; rfl
  generalize hbs : [b1, b2, b3, b4, b5] = bs at *
  have hbl : bs.length = 5 := by rw [← hbs]; rfl
  generalize (upd (upd (upd (upd H p1 (.lst [V.bl b1, V.bl b2, V.bl b3, V.bl b4])) p2 (.lst [V.str "NoLookers", V.str "NoLot", V.str "NoPlan", V.str "NoTree", V.str "NoWarren"])) p3 (.lst [V.bl b5])) p4 (.lst ([V.bl b1, V.bl b2, V.bl b3, V.bl b4] ++ [V.bl b5]))) = H4 at *
  refine ⟨fun i G => Same H4 G ∧ G L = some (.lst (((((kWs.zip bs).take i).filter (·.2)).map (·.1)).map V.str)), ⟨same_new nL, by rw [upd_same]; rfl⟩, fun i G hG => ⟨SqL.of (hG.1 _ _ q2), SqL.of (hG.1 _ _ q4)⟩, fun i x y T G hx hy hG hT => ?_, fun G hG => ?_⟩
  · obtain ⟨u, gu, rfl⟩ : ∃ u, kWs[i]? = some u ∧ V.str u = x := by
      rw [List.getElem?_map] at hx
      cases c : kWs[i]? with
      | none => rw [c] at hx; cases hx
      | some u => rw [c] at hx; exact ⟨u, rfl, Option.some.inj hx⟩
    obtain ⟨b, gb, rfl⟩ : ∃ b, bs[i]? = some b ∧ V.bl b = y := by
      rw [List.getElem?_map] at hy
      cases c : bs[i]? with
      | none => rw [c] at hy; cases hy
      | some u => rw [c] at hy; exact ⟨u, rfl, Option.some.inj hy⟩
    have gz : (kWs.zip bs)[i]? = some (u, b) := by rw [List.getElem?_zip_eq_some]; exact ⟨gu, gb⟩
    have nTL : T ≠ L := fun q => by rw [q, hG.2] at hT; cases hT
    have sT : Same H4 (upd G T (.tup [V.str u, V.bl b])) := fun c x q => same_new hT c x (hG.1 c x q)
    have acc : (((kWs.zip bs).take (i + 1)).filter (·.2)).map (·.1) = (((kWs.zip bs).take i).filter (·.2)).map (·.1) ++ if b = true then [u] else [] := by
      rw [take_succ_get gz, List.filter_append, List.map_append]
      cases b <;> rfl
    refine ⟨T, [V.str u, V.bl b], rfl, SqT.of upd_same, rfl, V.str u, [V.bl b], rfl, V.bl b, [], rfl, rfl, rfl, V.bl b, rfl, b, rfl, ?_⟩
    cases b with
    | false =>
      refine ⟨sT, ?_⟩
      rw [acc, upd_ne nTL.symm, hG.2]
      simp
    | true =>
      refine ⟨V.str u, rfl, _, by rw [upd_ne nTL.symm, hG.2], ?_, fun c x q => ?_, ?_⟩
      · rw [List.length_map, List.length_map]
        have h1 := List.length_filter_le (fun z : Str × Bool => z.2) ((kWs.zip bs).take i)
        have h2 : ((kWs.zip bs).take i).length ≤ 5 := by rw [List.length_take, List.length_zip, hbl]; omega
        have := sz 5 (by decide)
        rw [line_eq] at *
        omega
      · have nc : c ≠ L := fun z => by rw [z, nL] at q; cases q
        rw [upd_ne nc]
        exact sT c x q
      · rw [upd_same, acc, List.map_append]
        rfl
  · have hl5 : (kWs.zip bs).length = 5 := by rw [List.length_zip, hbl]; rfl
    have e : (kWs.zip bs).take (kWs.map V.str).length = kWs.zip bs := List.take_of_length_le (by rw [hl5]; exact Nat.le_refl _)
    obtain ⟨hs, hG⟩ := hG
    rw [e] at hG
    have hp : ((kWs.zip bs).filter (·.2)).map (·.1) = [w] := hw
    rw [hp] at hG
    refine ⟨" ", L, [w], rfl, rfl, .inl (SqL.of hG), ?_, ?_⟩
    · have : w ∈ kWs := by
        have hm : w ∈ ((kWs.zip bs).filter (·.2)).map (·.1) := by rw [hp]; exact List.mem_singleton.mpr rfl
        obtain ⟨z, hz, rfl⟩ := List.mem_map.mp hm
        exact (List.of_mem_zip (List.mem_filter.mp hz).1).1
      have hwl : ∀ w ∈ kWs, w.length ≤ 100 := by decide +kernel
      have := hwl w this
      have e2 : (" " : Str).length = 1 := by decide +kernel
      rw [e2]
      simp
      omega
    · have := hn (some (.ref p1)) (some (.ref p2)) G (fun b x q => hs b x (sm4 b x q))
      exact this
section
variable {X : Cx} {a D D1 D2 D3 D4 D5 : Addr} {oe : Obj} {pn : List (Addr × Obj)}
theorem pss_kind {q1 q2 q3 q4 q5 q6 q7 q8 q9 q10 q11 q12 q13 q14 q15 q16 q17 q18 q19 q20 q21 q22 q23 q24 q25 q26 q27 q28 q29 q30 q31 q32 q33 q34 q35 q36 q37 q38 q39 q40 q41 q42 q43 q44 q45 q46 q47 q48 : Pos} {k1 : Nat}
    (kx : KX X) (k5 : K5 X.mg D1 D2 D3 D4 D5) (hz : L2N.Zn (.ref D) none oe) (hfs : ∃ vs, oe.data = .fields vs) (cl : ExcC X.K D) (hj : (q30.endLine == q47.line) = true) :
    PSs (X.suite a ((a, oe) :: pn)) [
      .Assign [.Name "some" q1] (.List [.Call (.Name "isinstance" q2) [.Name "e" q3, .Name "NoLookers" q4] [] q5, .Call (.Name "isinstance" q6) [.Name "e" q7, .Name "NoLot" q8] [] q9, .Call (.Name "isinstance" q10) [.Name "e" q11, .Name "NoPlan" q12] [] q13, .Call (.Name "isinstance" q14) [.Name "e" q15, .Name "NoTree" q16] [] q17] q18) q19,
      .Assign [.Name "words" q20] (.List [.Constant (.str "NoLookers") 0 q21, .Constant (.str "NoLot") 0 q22, .Constant (.str "NoPlan") 0 q23, .Constant (.str "NoTree") 0 q24, .Constant (.str "NoWarren") 0 q25] q26) q27,
      .Assign [.Name "kin" q28] (.Call (.Attribute (.Constant (.str " ") 0 q29) "join" q30) [.ListComp (.Name "word" q31) [⟨.Tuple [.Name "word" q32, .Name "is_it" q33] k1 q34, .Call (.Name "zip" q35) [.Name "words" q36, .BinOp (.Name "some" q37) .Add (.List [.Call (.Name "isinstance" q38) [.Name "e" q39, .Name "NoWarren" q40] [] q41] q42) q43] [] q44, [.Name "is_it" q45], 0⟩] kScope q46] [] q47) q48] (tKind X.K a D D1 D2 D3 D4 D5) := by
  have hX : X.N = kN := kx.N
  have nd : X.N.Nodup := by rw [hX]; decide
  have hot : L2H.Hot1 (X.suite a ((a, oe) :: pn)).A (a, oe) := by
    obtain ⟨vs, hv⟩ := hfs
    exact ⟨rfl, vs, hv, hz.2.2 vs hv⟩
  have zc : Zc (.ref D) none oe := hz.zc
  have h5 : X.N[5]? = some ("e" : Str) := by rw [hX]; rfl
  have le : X.env.kindOf ("e" : Str) = some .local := kx.loc _ (by decide)
  have lo : ∀ x ∈ (["kin", "e", "some", "words"] : List Str), Loc X.env.scope x := fun x hx => .inl (kx.loc x hx)
  have I1 := fun p2 p3 p4 p5 => pe_isE (pn := pn) (p2 := p2) (p3 := p3) (p4 := p4) (p5 := p5) (a := a) zc hfs cl h5 le (kx.gl _ (by decide)) kx.bi (kx.gl ("NoLookers" : Str) (by decide)) k5.g1
  have I2 := fun p2 p3 p4 p5 => pe_isE (pn := pn) (p2 := p2) (p3 := p3) (p4 := p4) (p5 := p5) (a := a) zc hfs cl h5 le (kx.gl _ (by decide)) kx.bi (kx.gl ("NoLot" : Str) (by decide)) k5.g2
  have I3 := fun p2 p3 p4 p5 => pe_isE (pn := pn) (p2 := p2) (p3 := p3) (p4 := p4) (p5 := p5) (a := a) zc hfs cl h5 le (kx.gl _ (by decide)) kx.bi (kx.gl ("NoPlan" : Str) (by decide)) k5.g3
  have I4 := fun p2 p3 p4 p5 => pe_isE (pn := pn) (p2 := p2) (p3 := p3) (p4 := p4) (p5 := p5) (a := a) zc hfs cl h5 le (kx.gl _ (by decide)) kx.bi (kx.gl ("NoTree" : Str) (by decide)) k5.g4
  have I5 := fun p2 p3 p4 p5 => pe_isE (pn := pn) (p2 := p2) (p3 := p3) (p4 := p4) (p5 := p5) (a := a) zc hfs cl h5 le (kx.gl _ (by decide)) kx.bi (kx.gl ("NoWarren" : Str) (by decide)) k5.g5
  have S1 := ps_set (X := X.suite a ((a, oe) :: pn)) (i := 6) (pos := q19) (pos' := q1) nd (by rw [hX]; rfl) (lo ("some" : Str) (by decide)) (pe_lst (pos := q18) (pa_cons (I1 q2 q3 q4 q5) (pa_cons (I2 q6 q7 q8 q9) (pa_cons (I3 q10 q11 q12 q13) (pa_cons (I4 q14 q15 q16 q17) pa_nil))))) (by rfl) (.inr (kx.loc _ (by decide)))
  have S2 := ps_set (X := X.suite a ((a, oe) :: pn)) (i := 7) (pos := q27) (pos' := q20) nd (by rw [hX]; rfl) (lo ("words" : Str) (by decide)) (pe_lst (pos := q26) (pa_cons (pe_str (x := "NoLookers") (j := 0) (pos := q21)) (pa_cons (pe_str (x := "NoLot") (j := 0) (pos := q22)) (pa_cons (pe_str (x := "NoPlan") (j := 0) (pos := q23)) (pa_cons (pe_str (x := "NoTree") (j := 0) (pos := q24)) (pa_cons (pe_str (x := "NoWarren") (j := 0) (pos := q25)) pa_nil)))))) (by rfl) (.inr (kx.loc _ (by decide)))
  have hA : PA (X.suite a ((a, oe) :: pn)) [.Name "words" q36, .BinOp (.Name "some" q37) .Add (.List [.Call (.Name "isinstance" q38) [.Name "e" q39, .Name "NoWarren" q40] [] q41] q42) q43] _ :=
    pa_cons (pe_var (i := 7) (by rw [hX]; rfl) (.inl (kx.loc ("words" : Str) (by decide)))) (pa_cons (pe_op op_cat (pe_var (i := 6) (by rw [hX]; rfl) (.inl (kx.loc ("some" : Str) (by decide)))) (pe_lst (pa_cons (I5 q38 q39 q40 q41) pa_nil))) pa_nil)
  have hL := pe_lcZ (X := X.suite a ((a, oe) :: pn)) (pp := (a, oe)) (elt := .Name "word" q31) (elts := [.Name "word" q32, .Name "is_it" q33]) (kk := k1) (tpos := q34) (zp := q35) (zpos := q44) (pos := q46) (ifs := [.Name "is_it" q45]) (scope := kScope) (tt := fun σ H Q => tVar 9 σ H fun x H' => ∃ k, TruV X.K x H' k ∧ Q k H') (te := tVar 8) (g := gTup X.K 2 (gCons (gName 8) (gCons (gName 9) gNil))) hot (by simp) nd (kx.gl ("zip" : Str) (by decide)) kx.bz hA kx.ok
    (fun s H C cl fp => pg_tupH (X := hotBlk (X.suite a ((a, oe) :: pn)) (a, oe) s H kScope C cl fp) (n := 2) (t := gCons (gName 8) (gCons (gName 9) gNil)) ⟨(a, oe), hot, by simp⟩ (pgs_cons (pg_name (i := 8) nd (by rw [hX]; rfl) (.inl rfl)) (pgs_cons (pg_name (i := 9) nd (by rw [hX]; rfl) (.inl rfl)) pgs_nil)))
    (fun s H C cl fp => pts_one (pt_truth (X := hotBlk (X.suite a ((a, oe) :: pn)) (a, oe) s H kScope C cl fp) (pe_var (i := 9) (by rw [hX]; rfl) (.inl rfl)) (by intro _; rfl))) (fun s H C cl fp => pe_var (X := hotBlk (X.suite a ((a, oe) :: pn)) (a, oe) s H kScope C cl fp) (i := 8) (by rw [hX]; rfl) (.inl rfl))
  have S3 := ps_set (X := X.suite a ((a, oe) :: pn)) (i := 4) (pos := q48) (pos' := q28) nd (by rw [hX]; rfl) (lo ("kin" : Str) (by decide)) (pe_join (pos := q47) (apos := q30) (pe_str (x := " ") (j := 0) (pos := q29)) hL (by rfl) (by rfl) hj) (by rfl) (.inr (kx.loc _ (by decide)))
  exact pss_conv (pss_cons S1 (pss_cons S2 (pss_one S3))) fun Dd σ H h => sim_kind h
end
/-! ### a try's body of calls by cases -/
abbrev CS := (Env → Prop) → (Ex → Env → Prop) → Env → Prop
def upC (K : PySem.W.Frag) (mg : Str → Option Value) (W : WX) (t : CS) : TS := fun S σ H => ∃ (C : Ctx) (M : AS) (env : Env) (n : Env → Prop) (x : Ex → Env → Prop), Rel K C M env σ H ∧ t n x env ∧
  (∀ env' H' M', n env' → Rel K C M' env' σ H' → Keep M H H' → Grow M H M' → S.nx σ H') ∧
  (∀ e env' H' M', x e env' → Rel K C M' env' σ H' → Keep M H H' → Grow M H M' → e.2 = none ∧ ∃ A, mg e.1 = some (.ref A) ∧ W (.ref A) none σ H')
def cCall (φ : F0) (t : DA) : CS := fun n x env => t env (fun ds e => φ ds (fun _ => n e) (fun y => x y e)) (fun _ _ => False)
def cIf (tt : DT) (a b : CS) : CS := fun n x env => tt env (fun c e => if c = true then a n x e else b n x e) (fun _ _ => False)
section
variable {X : Cx} {W : WX} {g : Str} {k : Nat} {f : Addr} {fd : FuncData} {ps : List Str} {e c : Expr} {es : List Expr} {a b : List Stmt} {t : DA} {φ : F0} {p pos pos2 : Pos} {tt : DT} {ca cb : CS}
theorem dc_call (tk : L2N.Takes X W) (G : FnOk X.prog X.w X.K X.mg X.base (L2N.CX X.prog X.w) k f fd ps (spF0 X.K (EWx X.mg) false φ)) (hr : Room k X.A) (hg : Gl X g) (hm : X.mg g = some (.ref f)) (hk : PySem.W.keepIn X.K (.ref f) = true) (hb : Binds X.K fd ps [])
    (ha : PA X (e :: es) (upA X.K W0 t)) (hdb : (g == ("__debug__" : Str)) = false := by decide) (he : starEach (e :: es) X.env = (false, eval e X.env) :: starEach es X.env := by rfl) (hpl : (backTo pos (starEach es X.env)).any (·.1) = false := by rfl) (hsw : swapsWith (.Call (.Name g p) (e :: es) [] pos) none pos2.line X.env = pure false := by rfl) :
    PSs X [.Expr (.Call (.Name g p) (e :: es) [] pos) pos2] (upC X.K X.mg W (cCall φ t)) := by
  refine pss_conv (pss_one (ps_expr (pe_callS (E := WE W) G hr hg hm hk hb (fun σ => L2N.passAt tk σ) ha hdb he hpl) hsw)) fun D' σ H h => ?_
  obtain ⟨C0, M, env, n, x, R, h, hn, hx⟩ := h
  refine ⟨C0, M, env, _, _, R, h, fun ds e1 vs H1 M1 h1 R1 k1 g1 r1 => ?_, fun e env' H' M' xe _ _ _ => xe.elim⟩
  refine ⟨_, ds, _, _, R1.avt, r1, h1, fun d v H' kd s r => hn _ _ M1 kd (R1.same s) (k1.trans g1 (.same s)) g1, fun y H' xe s => ?_⟩
  exact hx y e1 H' M1 xe (R1.same s) (k1.trans g1 (.same s)) g1
theorem dc_if (hc : PT X c (upT X.K W0 tt)) (ha : PSs X a (upC X.K X.mg W ca)) (hb : PSs X b (upC X.K X.mg W cb)) : PSs X [.If c a b pos] (upC X.K X.mg W (cIf tt ca cb)) := by
  refine pss_conv (pss_one (ps_if hc ha hb)) fun D' σ H h => ?_
  obtain ⟨C0, M, env, n, x, R, h, hn, hx⟩ := h
  refine ⟨C0, M, env, _, _, R, h, fun d e1 H1 M1 h1 R1 k1 g1 => ?_, fun e env' H' M' xe _ _ _ => xe.elim⟩
  cases d with
  | true =>
    rw [if_pos rfl] at h1 ⊢
    exact ⟨C0, M1, e1, n, x, R1, h1, fun env' H' M' h2 R2 k2 g2 => hn env' H' M' h2 R2 (k1.trans g1 k2) (g1.trans k1 g2), fun y env' H' M' h2 R2 k2 g2 => hx y env' H' M' h2 R2 (k1.trans g1 k2) (g1.trans k1 g2)⟩
  | false =>
    rw [if_neg Bool.false_ne_true] at h1 ⊢
    exact ⟨C0, M1, e1, n, x, R1, h1, fun env' H' M' h2 R2 k2 g2 => hn env' H' M' h2 R2 (k1.trans g1 k2) (g1.trans k1 g2), fun y env' H' M' h2 R2 k2 g2 => hx y env' H' M' h2 R2 (k1.trans g1 k2) (g1.trans k1 g2)⟩
end
/-- what is asked of a class whose refusal is told -/
structure KF (K : PySem.W.Frag) (mg : Str → Option Value) (F D1 D2 D3 D4 D5 : Addr) (x : Str) (C : Addr) : Prop where
  g : mg x = some (.ref C)
  ex : PySem.W.exmOne K (.ref C) (.ref F) = some true
  cl : ExcC K C
  is : ∃ b1 b2 b3 b4 b5, PySem.W.kitOne K (.ref C) (.ref D1) = some b1 ∧ PySem.W.kitOne K (.ref C) (.ref D2) = some b2 ∧ PySem.W.kitOne K (.ref C) (.ref D3) = some b3 ∧ PySem.W.kitOne K (.ref C) (.ref D4) = some b4 ∧ PySem.W.kitOne K (.ref C) (.ref D5) = some b5 ∧ pickW [b1, b2, b3, b4, b5] = [x]
def kindNames : List Str := ["NoWarren", "NoLookers", "NoLot", "NoPlan"]
def sTryKind (cs : CS) : DS := fun k env => cs k.nx (fun y env' => y.2 = none ∧ y.1 ∈ kindNames ∧ ∃ f0 f1 f2 f3 f4 f8 f9, env' = [f0, f1, f2, f3, f4, .no, .no, .no, f8, f9] ∧ k.nx [f0, f1, f2, f3, .frz (.str y.1), .no, .no, .no, f8, f9]) env
section
variable {X : Cx} {fr : Bool} {F D1 D2 D3 D4 D5 : Addr} {cs : CS} {body : List Stmt} {np pos' pos3 : Pos}
theorem ds_tryKind {q1 q2 q3 q4 q5 q6 q7 q8 q9 q10 q11 q12 q13 q14 q15 q16 q17 q18 q19 q20 q21 q22 q23 q24 q25 q26 q27 q28 q29 q30 q31 q32 q33 q34 q35 q36 q37 q38 q39 q40 q41 q42 q43 q44 q45 q46 q47 q48 : Pos} {k1 : Nat}
    (hs : X.stack = X.env :: X.outer) (hf : X.env.frame = some X.env.locals) (kx : KX X) (k5 : K5 X.mg D1 D2 D3 D4 D5) (hgF : Gl X "FoxError") (gF : X.mg "FoxError" = some (.ref F))
    (kf : ∀ x ∈ kindNames, ∃ C, KF X.K X.mg F D1 D2 D3 D4 D5 x C) (hj : (q30.endLine == q47.line) = true)
    (hb : ∀ (W : WX) (pn : List (Addr × Obj)) (xe : Value → Shared → Prop), L2N.Takes (X.tr pn xe) W → PSs (X.tr pn xe) body (upC X.K X.mg W cs)) :
    PS X (.Try body [.ExceptHandler (some (.Name "FoxError" np)) (some "e") [
      .Assign [.Name "some" q1] (.List [.Call (.Name "isinstance" q2) [.Name "e" q3, .Name "NoLookers" q4] [] q5, .Call (.Name "isinstance" q6) [.Name "e" q7, .Name "NoLot" q8] [] q9, .Call (.Name "isinstance" q10) [.Name "e" q11, .Name "NoPlan" q12] [] q13, .Call (.Name "isinstance" q14) [.Name "e" q15, .Name "NoTree" q16] [] q17] q18) q19,
      .Assign [.Name "words" q20] (.List [.Constant (.str "NoLookers") 0 q21, .Constant (.str "NoLot") 0 q22, .Constant (.str "NoPlan") 0 q23, .Constant (.str "NoTree") 0 q24, .Constant (.str "NoWarren") 0 q25] q26) q27,
      .Assign [.Name "kin" q28] (.Call (.Attribute (.Constant (.str " ") 0 q29) "join" q30) [.ListComp (.Name "word" q31) [⟨.Tuple [.Name "word" q32, .Name "is_it" q33] k1 q34, .Call (.Name "zip" q35) [.Name "words" q36, .BinOp (.Name "some" q37) .Add (.List [.Call (.Name "isinstance" q38) [.Name "e" q39, .Name "NoWarren" q40] [] q41] q42) q43] [] q44, [.Name "is_it" q45], 0⟩] kScope q46] [] q47) q48] pos'] [] [] pos3) (upS X.K W0 fr (sTryKind cs)) := by
  have hX : X.N = kN := kx.N
  have nd : X.N.Nodup := by rw [hX]; decide
  have h5 : X.N[5]? = some ("e" : Str) := by rw [hX]; rfl
  refine ps_conv (L2N.ps_try_as (i := 5) (Wout := fun _ _ _ _ => False) (c := .ref F) hs hf nd h5 (kx.loc _ (by decide)) ⟨hgF, by decide, .inl gF⟩ takes0N (ts := fun a cls d => fun D' σ H => ∃ D, cls = .ref D ∧ d = none ∧ ExcC X.K D ∧ tKind X.K a D D1 D2 D3 D4 D5 D' σ H) (tb := fun W => upC X.K X.mg W cs) (fun W pn xe tk _ => hb W pn xe tk) (fun a oe cls d pn hz hfs => ?_)) fun D' σ H h => ?_
  · by_cases c : ∃ D, cls = .ref D ∧ d = none ∧ ExcC X.K D
    · obtain ⟨D, rfl, rfl, cl⟩ := c
      refine pss_conv (pss_kind (D := D) kx k5 hz hfs cl hj) fun D' σ H h => ?_
      obtain ⟨D2', e, _, _, h⟩ := h
      cases e
      exact h
    · exact pss_conv pss_never fun D' σ H h => c ⟨h.choose, h.choose_spec.1, h.choose_spec.2.1, h.choose_spec.2.2.1⟩
  · obtain ⟨C0, M, env, k, R, h, hn, hrt, hx, hbc⟩ := h
    refine ⟨C0, M, env, _, _, R, h, fun env' H' M' h1 R1 k1 g1 => hn env' σ H' M' h1 R1 k1 g1, fun y env' H' M' h1 R1 k1 g1 => ?_⟩
    obtain ⟨y2, ym, f0, f1, f2, f3, f4, f8, f9, rfl, h1⟩ := h1
    obtain ⟨C, kfc⟩ := kf y.1 ym
    refine ⟨y2, C, kfc.g, true, kfc.ex, fun _ a na => ⟨C, rfl, rfl, kfc.cl, ?_⟩, fun z => nomatch z⟩
    obtain ⟨b1, b2, b3, b4, b5, e1, e2, e3, e4, e5, hw⟩ := kfc.is
    have hlen := R1.len
    obtain ⟨s0, s1, s2, s3, s4, s5, s6, s7, s8, s9, rfl⟩ : ∃ s0 s1 s2 s3 s4 s5 s6 s7 s8 s9, σ = [s0, s1, s2, s3, s4, s5, s6, s7, s8, s9] := by
      match σ, hlen with
      | [s0, s1, s2, s3, s4, s5, s6, s7, s8, s9], _ => exact ⟨_, _, _, _, _, _, _, _, _, _, rfl⟩
    refine ⟨s0, s1, s2, s3, s4, s6, s7, s8, s9, b1, b2, b3, b4, b5, y.1, rfl, e1, e2, e3, e4, e5, hw, fun v6 v7 G sm => ?_⟩
    have R2 := (((R1.same sm).wild (i := 5) rfl none).wild (i := 6) rfl v6).wild (i := 7) rfl v7
    have R3 := R2.storeF (i := 4) (d := .str y.1) (v := .str y.1) rfl
    exact hn _ _ G M' h1 R3 (k1.trans g1 (.same sm)) g1
end
end FX

set_option Elab.async false
set_option linter.all false
set_option maxRecDepth 100000
set_option maxHeartbeats 4000000
/-! FxU: a tuple times a number; a thing changed by a def that is never called -/
namespace FX
open PySem PySem.Spec PyProof.Rows L2
def repT : D → D → Option D
  | .tup a, .int k => if a ≠ [] ∧ 2 ≤ k ∧ k ≤ 1000 ∧ a.length ≤ 1000 then some (.tup ((List.replicate k.toNat a).flatten)) else none
  | _, _ => none
theorem b_repT {K : PySem.W.Frag} : Bin K (rRepT K) repT := ⟨fun {Av H a b d x y Q} av ra rb e q => by
  cases a <;> cases b <;> first | (cases e; done) | skip
  obtain ⟨⟨h0, h1, h2, h3⟩, rfl⟩ := ite_some e
  obtain ⟨p, vs, rfl, np, hp, r1⟩ := id ra
  have rb : y = .int _ := rb
  subst rb
  refine ⟨p, _, vs, rfl, rfl, SqT.of hp, fun z => h0 ((nil_of_len r1).mp z), h1, h2, by rw [r1.length]; exact h3, fun t ht => q _ _ (same_new ht) ⟨t, _, rfl, av.new ht, upd_same, (reps_flat r1 _).same (same_new ht)⟩⟩⟩
/-- len of a dict with int keys -/
def lenAF : List D → Option D
  | [.dI kvs] => some (.int kvs.length)
  | _ => none
theorem call_len_any {X : Cx} : CallR X (.builtin "len") (fun xs H Q => ∃ (a : Addr) (kvs : List (Key × V)), xs = [V.ref a] ∧ Rd H a (.dK kvs) ∧ Q (.int kvs.length) H) := by
  intro pins s σ H xs us Q I r h
  obtain ⟨a, kvs, rfl, ha, q⟩ := h
  obtain ⟨u, rfl, ru⟩ := vals1 r
  cases ru
  exact d_len I ha fun t s' I' => ⟨.int kvs.length, H, I', ⟨t, rfl⟩, q⟩
theorem c_lenA {K : PySem.W.Frag} : Cal K (fun xs H Q => ∃ (a : Addr) (kvs : List (Key × V)), xs = [V.ref a] ∧ Rd H a (.dK kvs) ∧ Q (.int kvs.length) H) lenAF := ⟨fun {Av H ds d xs Q} av r e q => by
  match ds, e with
  | [.dI kvs], e =>
    cases e
    obtain ⟨v, rfl, p, ws, rfl, np, hp, rr⟩ := r.inv1
    exact ⟨p, ws, rfl, hp, q _ H (Same.refl H) (by rw [rr.length]; rfl)⟩⟩
theorem fn_none1 {P : Program} {w : World} {K : PySem.W.Frag} {mg : Str → Option Value} {base : Heap} {CX : CXT} {k : Nat} {f : Addr} {fd : FuncData} {ps : List Str} {EW : XK → HW} : FnOk P w K mg base CX k f fd ps (spF1 K EW fun _ _ _ _ => False) where
  len := fun vs H Q E hq => by
    obtain ⟨Av, p, v0, vr, d0, ds, k, x, av, hp, e, c, r, hφ, _⟩ := hq
    exact hφ.elim
  run := fun A outer s H args us vs Q E hr e0 hb hv hq => by
    obtain ⟨Av, p, v0, vr, d0, ds, k, x, av, hp, e, c, r, hφ, _⟩ := hq
    exact hφ.elim
end FX

set_option Elab.async false
set_option linter.all false
set_option maxRecDepth 100000
set_option maxHeartbeats 4000000
/-! printed by gen.py: readings and derivations -/
namespace K01
open PySem PySem.Spec PyProof.Rows L2 FX
def top (i : Nat) : Stmt := PySem.Challenge.pw_foxholes_k01_warrens_lots_and_days_known.main.body.getD i (.Pass ⟨0, 0, 0, 0⟩)
abbrev s_is_from : Stmt := top 10
theorem sc_is_from : FnScope ["thing", "low", "high"] ["thing", "low", "high"] (defScope s_is_from) := ⟨rfl, rfl, rfl, by decide +kernel, rfl, by decide +kernel, by decide +kernel⟩
abbrev s_is_passage : Stmt := top 11
theorem sc_is_passage : FnScope ["holes", "thing", "one"] ["holes", "thing"] (defScope s_is_passage) := ⟨rfl, rfl, rfl, by decide +kernel, rfl, by decide +kernel, by decide +kernel⟩
abbrev s_is_warren : Stmt := top 12
theorem sc_is_warren : FnScope ["thing", "holes", "passages", "one", "other", "hole"] ["thing"] (defScope s_is_warren) := ⟨rfl, rfl, rfl, by decide +kernel, rfl, by decide +kernel, by decide +kernel⟩
abbrev s_good_lot : Stmt := top 13
theorem sc_good_lot : FnScope ["warren", "thing", "hole", "one", "other"] ["warren", "thing"] (defScope s_good_lot) := ⟨rfl, rfl, rfl, by decide +kernel, rfl, by decide +kernel, by decide +kernel⟩
abbrev s_look_warren : Stmt := top 14
theorem sc_look_warren : FnScope ["warren"] ["warren"] (defScope s_look_warren) := ⟨rfl, rfl, rfl, by decide +kernel, rfl, by decide +kernel, by decide +kernel⟩
abbrev s_look_lookers : Stmt := top 15
theorem sc_look_lookers : FnScope ["lookers"] ["lookers"] (defScope s_look_lookers) := ⟨rfl, rfl, rfl, by decide +kernel, rfl, by decide +kernel, by decide +kernel⟩
abbrev s_look_lot : Stmt := top 16
theorem sc_look_lot : FnScope ["warren", "lot"] ["warren", "lot"] (defScope s_look_lot) := ⟨rfl, rfl, rfl, by decide +kernel, rfl, by decide +kernel, by decide +kernel⟩
abbrev s_is_lot : Stmt := top 17
theorem sc_is_lot : FnScope ["warren", "thing"] ["warren", "thing"] (defScope s_is_lot) := ⟨rfl, rfl, rfl, by decide +kernel, rfl, by decide +kernel, by decide +kernel⟩
abbrev s_next_to : Stmt := top 18
theorem sc_next_to : FnScope ["warren", "hole", "pair", "one"] ["warren", "hole"] (defScope s_next_to) := ⟨rfl, rfl, rfl, by decide +kernel, rfl, by decide +kernel, by decide +kernel⟩
abbrev s_later : Stmt := top 19
theorem sc_later : FnScope ["warren", "where", "lot", "found", "hole", "one"] ["warren", "where", "lot"] (defScope s_later) := ⟨rfl, rfl, rfl, by decide +kernel, rfl, by decide +kernel, by decide +kernel⟩
abbrev s_behind : Stmt := top 20
theorem sc_behind : FnScope ["warren", "where", "lot"] ["warren", "where", "lot"] (defScope s_behind) := ⟨rfl, rfl, rfl, by decide +kernel, rfl, by decide +kernel, by decide +kernel⟩
abbrev s_shows : Stmt := top 29
theorem sc_shows : FnScope ["warren", "lookers", "where", "thing", "lot"] ["warren", "lookers", "where", "thing"] (defScope s_shows) := ⟨rfl, rfl, rfl, by decide +kernel, rfl, by decide +kernel, by decide +kernel⟩
abbrev s_to_shut : Stmt := top 33
theorem sc_to_shut : FnScope ["warren", "lookers", "found", "passage", "other"] ["warren", "lookers"] (defScope s_to_shut) := ⟨rfl, rfl, rfl, by decide +kernel, rfl, by decide +kernel, by decide +kernel⟩
abbrev s_is_plan : Stmt := top 36
theorem sc_is_plan : FnScope ["warren", "lookers", "thing", "lot"] ["warren", "lookers", "thing"] (defScope s_is_plan) := ⟨rfl, rfl, rfl, by decide +kernel, rfl, by decide +kernel, by decide +kernel⟩
abbrev s_look_all : Stmt := top 37
theorem sc_look_all : FnScope ["warren", "lookers", "where"] ["warren", "lookers", "where"] (defScope s_look_all) := ⟨rfl, rfl, rfl, by decide +kernel, rfl, by decide +kernel, by decide +kernel⟩
abbrev s_surely : Stmt := top 38
theorem sc_surely : FnScope ["warren", "lookers", "where", "thing", "lot"] ["warren", "lookers", "where", "thing"] (defScope s_surely) := ⟨rfl, rfl, rfl, by decide +kernel, rfl, by decide +kernel, by decide +kernel⟩
abbrev s_fewest_days : Stmt := top 39
theorem sc_fewest_days : FnScope ["warren", "lookers", "where"] ["warren", "lookers", "where"] (defScope s_fewest_days) := ⟨rfl, rfl, rfl, by decide +kernel, rfl, by decide +kernel, by decide +kernel⟩
abbrev s_three_arms : Stmt := top 43
theorem sc_three_arms : FnScope ["warren", "hole", "arms"] ["warren"] (defScope s_three_arms) := ⟨rfl, rfl, rfl, by decide +kernel, rfl, by decide +kernel, by decide +kernel⟩
abbrev s_look_plan : Stmt := top 46
theorem sc_look_plan : FnScope ["warren", "where", "plan"] ["warren", "where", "plan"] (defScope s_look_plan) := ⟨rfl, rfl, rfl, by decide +kernel, rfl, by decide +kernel, by decide +kernel⟩
abbrev s_walk : Stmt := top 47
theorem sc_walk : FnScope ["warren", "where", "plan", "rows", "some", "found", "row", "good", "hole"] ["warren", "where", "plan"] (defScope s_walk) := ⟨rfl, rfl, rfl, by decide +kernel, rfl, by decide +kernel, by decide +kernel⟩
abbrev s__law_bag : Stmt := top 49
theorem sc__law_bag : FnScope ["script", "k", "cell", "seed"] ["script", "k"] (defScope s__law_bag) := ⟨rfl, rfl, rfl, by decide +kernel, rfl, by decide +kernel, by decide +kernel⟩
abbrev s__law_take : Stmt := top 50
theorem sc__law_take : FnScope ["bag", "count", "found"] ["bag", "count"] (defScope s__law_take) := ⟨rfl, rfl, rfl, by decide +kernel, rfl, by decide +kernel, by decide +kernel⟩
abbrev s__law_of : Stmt := top 51
theorem sc__law_of : FnScope ["bag", "some"] ["bag", "some"] (defScope s__law_of) := ⟨rfl, rfl, rfl, by decide +kernel, rfl, by decide +kernel, by decide +kernel⟩
abbrev s__law_warren : Stmt := top 52
theorem sc__law_warren : FnScope ["bag", "most", "holes", "found", "hole", "near", "turn", "one", "other", "pair"] ["bag", "most"] (defScope s__law_warren) := ⟨rfl, rfl, rfl, by decide +kernel, rfl, by decide +kernel, by decide +kernel⟩
abbrev s__law_near : Stmt := top 53
theorem sc__law_near : FnScope ["warren", "hole", "one"] ["warren", "hole"] (defScope s__law_near) := ⟨rfl, rfl, rfl, by decide +kernel, rfl, by decide +kernel, by decide +kernel⟩
abbrev s__law_later : Stmt := top 54
theorem sc__law_later : FnScope ["warren", "where", "lot", "found", "hole", "one"] ["warren", "where", "lot"] (defScope s__law_later) := ⟨rfl, rfl, rfl, by decide +kernel, rfl, by decide +kernel, by decide +kernel⟩
abbrev s__law_is_number : Stmt := top 56
theorem sc__law_is_number : FnScope ["thing", "low", "high"] ["thing", "low", "high"] (defScope s__law_is_number) := ⟨rfl, rfl, rfl, by decide +kernel, rfl, by decide +kernel, by decide +kernel⟩
abbrev s__law_rises : Stmt := top 57
theorem sc__law_rises : FnScope ["some", "at"] ["some"] (defScope s__law_rises) := ⟨rfl, rfl, rfl, by decide +kernel, rfl, by decide +kernel, by decide +kernel⟩
abbrev s__law_is_warren : Stmt := top 58
theorem sc__law_is_warren : FnScope ["thing", "met", "pair"] ["thing"] (defScope s__law_is_warren) := ⟨rfl, rfl, rfl, by decide +kernel, rfl, by decide +kernel, by decide +kernel⟩
abbrev s__law_is_lot : Stmt := top 59
theorem sc__law_is_lot : FnScope ["warren", "thing", "hole"] ["warren", "thing"] (defScope s__law_is_lot) := ⟨rfl, rfl, rfl, by decide +kernel, rfl, by decide +kernel, by decide +kernel⟩
abbrev s__law_bent : Stmt := top 60
theorem sc__law_bent : FnScope ["bag", "thing", "at", "way"] ["bag", "thing"] (defScope s__law_bent) := ⟨rfl, rfl, rfl, by decide +kernel, rfl, by decide +kernel, by decide +kernel⟩
abbrev s__law_kind : Stmt := top 61
theorem sc__law_kind : FnScope ["way", "one", "two", "three", "kin", "e", "some", "words", "word", "is_it"] ["way", "one", "two", "three"] (defScope s__law_kind) := ⟨rfl, rfl, rfl, by decide +kernel, rfl, by decide +kernel, by decide +kernel⟩
abbrev s__law_doors_right : Stmt := top 62
theorem sc__law_doors_right : FnScope ["warren", "holes", "bad", "plans", "way"] ["warren"] (defScope s__law_doors_right) := ⟨rfl, rfl, rfl, by decide +kernel, rfl, by decide +kernel, by decide +kernel⟩
abbrev s_law : Stmt := top 63
theorem sc_law : FnScope ["script", "k", "bag", "warren", "where", "things", "holes", "thing", "told", "turn", "lot_so", "hole", "one"] ["script"] (defScope s_law) := ⟨rfl, rfl, rfl, by decide +kernel, rfl, by decide +kernel, by decide +kernel⟩
/-- what the top has written -/
structure Md (K : PySem.W.Frag) (mg : Str → Option Value) where
  a_is_from : Addr
  d_is_from : FuncData
  F_is_from : Fun K "is_from" "is_from" s_is_from a_is_from d_is_from
  m_is_from : mg "is_from" = some (.ref a_is_from)
  b_is_from : Binds K d_is_from ["thing", "low", "high"] []
  a_is_passage : Addr
  d_is_passage : FuncData
  F_is_passage : Fun K "is_passage" "is_passage" s_is_passage a_is_passage d_is_passage
  m_is_passage : mg "is_passage" = some (.ref a_is_passage)
  b_is_passage : Binds K d_is_passage ["holes", "thing"] []
  a_is_warren : Addr
  d_is_warren : FuncData
  F_is_warren : Fun K "is_warren" "is_warren" s_is_warren a_is_warren d_is_warren
  m_is_warren : mg "is_warren" = some (.ref a_is_warren)
  b_is_warren : Binds K d_is_warren ["thing"] []
  a_good_lot : Addr
  d_good_lot : FuncData
  F_good_lot : Fun K "good_lot" "good_lot" s_good_lot a_good_lot d_good_lot
  m_good_lot : mg "good_lot" = some (.ref a_good_lot)
  b_good_lot : Binds K d_good_lot ["warren", "thing"] []
  a_look_warren : Addr
  d_look_warren : FuncData
  F_look_warren : Fun K "look_warren" "look_warren" s_look_warren a_look_warren d_look_warren
  m_look_warren : mg "look_warren" = some (.ref a_look_warren)
  b_look_warren : Binds K d_look_warren ["warren"] []
  a_look_lookers : Addr
  d_look_lookers : FuncData
  F_look_lookers : Fun K "look_lookers" "look_lookers" s_look_lookers a_look_lookers d_look_lookers
  m_look_lookers : mg "look_lookers" = some (.ref a_look_lookers)
  b_look_lookers : Binds K d_look_lookers ["lookers"] []
  a_look_lot : Addr
  d_look_lot : FuncData
  F_look_lot : Fun K "look_lot" "look_lot" s_look_lot a_look_lot d_look_lot
  m_look_lot : mg "look_lot" = some (.ref a_look_lot)
  b_look_lot : Binds K d_look_lot ["warren", "lot"] []
  a_is_lot : Addr
  d_is_lot : FuncData
  F_is_lot : Fun K "is_lot" "is_lot" s_is_lot a_is_lot d_is_lot
  m_is_lot : mg "is_lot" = some (.ref a_is_lot)
  b_is_lot : Binds K d_is_lot ["warren", "thing"] []
  a_next_to : Addr
  d_next_to : FuncData
  F_next_to : Fun K "next_to" "next_to" s_next_to a_next_to d_next_to
  m_next_to : mg "next_to" = some (.ref a_next_to)
  b_next_to : Binds K d_next_to ["warren", "hole"] []
  a_later : Addr
  d_later : FuncData
  F_later : Fun K "later" "later" s_later a_later d_later
  m_later : mg "later" = some (.ref a_later)
  b_later : Binds K d_later ["warren", "where", "lot"] []
  a_behind : Addr
  d_behind : FuncData
  F_behind : Fun K "behind" "behind" s_behind a_behind d_behind
  m_behind : mg "behind" = some (.ref a_behind)
  b_behind : Binds K d_behind ["warren", "where", "lot"] []
  a_shows : Addr
  d_shows : FuncData
  F_shows : Fun K "shows" "shows" s_shows a_shows d_shows
  m_shows : mg "shows" = some (.ref a_shows)
  b_shows : Binds K d_shows ["warren", "lookers", "where", "thing"] []
  a_to_shut : Addr
  d_to_shut : FuncData
  F_to_shut : Fun K "to_shut" "to_shut" s_to_shut a_to_shut d_to_shut
  m_to_shut : mg "to_shut" = some (.ref a_to_shut)
  b_to_shut : Binds K d_to_shut ["warren", "lookers"] []
  a_is_plan : Addr
  d_is_plan : FuncData
  F_is_plan : Fun K "is_plan" "is_plan" s_is_plan a_is_plan d_is_plan
  m_is_plan : mg "is_plan" = some (.ref a_is_plan)
  b_is_plan : Binds K d_is_plan ["warren", "lookers", "thing"] []
  a_look_all : Addr
  d_look_all : FuncData
  F_look_all : Fun K "look_all" "look_all" s_look_all a_look_all d_look_all
  m_look_all : mg "look_all" = some (.ref a_look_all)
  b_look_all : Binds K d_look_all ["warren", "lookers", "where"] []
  a_surely : Addr
  d_surely : FuncData
  F_surely : Fun K "surely" "surely" s_surely a_surely d_surely
  m_surely : mg "surely" = some (.ref a_surely)
  b_surely : Binds K d_surely ["warren", "lookers", "where", "thing"] []
  a_fewest_days : Addr
  d_fewest_days : FuncData
  F_fewest_days : Fun K "fewest_days" "fewest_days" s_fewest_days a_fewest_days d_fewest_days
  m_fewest_days : mg "fewest_days" = some (.ref a_fewest_days)
  b_fewest_days : Binds K d_fewest_days ["warren", "lookers", "where"] []
  a_three_arms : Addr
  d_three_arms : FuncData
  F_three_arms : Fun K "three_arms" "three_arms" s_three_arms a_three_arms d_three_arms
  m_three_arms : mg "three_arms" = some (.ref a_three_arms)
  b_three_arms : Binds K d_three_arms ["warren"] []
  a_look_plan : Addr
  d_look_plan : FuncData
  F_look_plan : Fun K "look_plan" "look_plan" s_look_plan a_look_plan d_look_plan
  m_look_plan : mg "look_plan" = some (.ref a_look_plan)
  b_look_plan : Binds K d_look_plan ["warren", "where", "plan"] []
  a_walk : Addr
  d_walk : FuncData
  F_walk : Fun K "walk" "walk" s_walk a_walk d_walk
  m_walk : mg "walk" = some (.ref a_walk)
  b_walk : Binds K d_walk ["warren", "where", "plan"] []
  a__law_bag : Addr
  d__law_bag : FuncData
  F__law_bag : Fun K "_law_bag" "_law_bag" s__law_bag a__law_bag d__law_bag
  m__law_bag : mg "_law_bag" = some (.ref a__law_bag)
  b__law_bag : Binds K d__law_bag ["script", "k"] []
  a__law_take : Addr
  d__law_take : FuncData
  F__law_take : Fun K "_law_take" "_law_take" s__law_take a__law_take d__law_take
  m__law_take : mg "_law_take" = some (.ref a__law_take)
  b__law_take : Binds K d__law_take ["bag", "count"] []
  a__law_of : Addr
  d__law_of : FuncData
  F__law_of : Fun K "_law_of" "_law_of" s__law_of a__law_of d__law_of
  m__law_of : mg "_law_of" = some (.ref a__law_of)
  b__law_of : Binds K d__law_of ["bag", "some"] []
  a__law_warren : Addr
  d__law_warren : FuncData
  F__law_warren : Fun K "_law_warren" "_law_warren" s__law_warren a__law_warren d__law_warren
  m__law_warren : mg "_law_warren" = some (.ref a__law_warren)
  b__law_warren : Binds K d__law_warren ["bag", "most"] []
  a__law_near : Addr
  d__law_near : FuncData
  F__law_near : Fun K "_law_near" "_law_near" s__law_near a__law_near d__law_near
  m__law_near : mg "_law_near" = some (.ref a__law_near)
  b__law_near : Binds K d__law_near ["warren", "hole"] []
  a__law_later : Addr
  d__law_later : FuncData
  F__law_later : Fun K "_law_later" "_law_later" s__law_later a__law_later d__law_later
  m__law_later : mg "_law_later" = some (.ref a__law_later)
  b__law_later : Binds K d__law_later ["warren", "where", "lot"] []
  a__law_is_number : Addr
  d__law_is_number : FuncData
  F__law_is_number : Fun K "_law_is_number" "_law_is_number" s__law_is_number a__law_is_number d__law_is_number
  m__law_is_number : mg "_law_is_number" = some (.ref a__law_is_number)
  b__law_is_number : Binds K d__law_is_number ["thing", "low", "high"] []
  a__law_rises : Addr
  d__law_rises : FuncData
  F__law_rises : Fun K "_law_rises" "_law_rises" s__law_rises a__law_rises d__law_rises
  m__law_rises : mg "_law_rises" = some (.ref a__law_rises)
  b__law_rises : Binds K d__law_rises ["some"] []
  a__law_is_warren : Addr
  d__law_is_warren : FuncData
  F__law_is_warren : Fun K "_law_is_warren" "_law_is_warren" s__law_is_warren a__law_is_warren d__law_is_warren
  m__law_is_warren : mg "_law_is_warren" = some (.ref a__law_is_warren)
  b__law_is_warren : Binds K d__law_is_warren ["thing"] []
  a__law_is_lot : Addr
  d__law_is_lot : FuncData
  F__law_is_lot : Fun K "_law_is_lot" "_law_is_lot" s__law_is_lot a__law_is_lot d__law_is_lot
  m__law_is_lot : mg "_law_is_lot" = some (.ref a__law_is_lot)
  b__law_is_lot : Binds K d__law_is_lot ["warren", "thing"] []
  a__law_bent : Addr
  d__law_bent : FuncData
  F__law_bent : Fun K "_law_bent" "_law_bent" s__law_bent a__law_bent d__law_bent
  m__law_bent : mg "_law_bent" = some (.ref a__law_bent)
  b__law_bent : Binds K d__law_bent ["bag", "thing"] []
  a__law_kind : Addr
  d__law_kind : FuncData
  F__law_kind : Fun K "_law_kind" "_law_kind" s__law_kind a__law_kind d__law_kind
  m__law_kind : mg "_law_kind" = some (.ref a__law_kind)
  b__law_kind : Binds K d__law_kind ["way", "one", "two", "three"] []
  a__law_doors_right : Addr
  d__law_doors_right : FuncData
  F__law_doors_right : Fun K "_law_doors_right" "_law_doors_right" s__law_doors_right a__law_doors_right d__law_doors_right
  m__law_doors_right : mg "_law_doors_right" = some (.ref a__law_doors_right)
  b__law_doors_right : Binds K d__law_doors_right ["warren"] []
  a_law : Addr
  d_law : FuncData
  F_law : Fun K "law" "law" s_law a_law d_law
  m_law : mg "law" = some (.ref a_law)
  b_law : Binds K d_law ["script"] []
  t_HOLES : Tok
  c_HOLES : mg "HOLES" = some (.int 10 t_HOLES)
  t_LOOKERS : Tok
  c_LOOKERS : mg "LOOKERS" = some (.int 4 t_LOOKERS)
  t_DAYS : Tok
  c_DAYS : mg "DAYS" = some (.int 1023 t_DAYS)
  z_all : mg "all" = none
  z_any : mg "any" = none
  z_bool : mg "bool" = none
  z_int : mg "int" = none
  z_isinstance : mg "isinstance" = none
  z_len : mg "len" = none
  z_list : mg "list" = none
  z_max : mg "max" = none
  z_min : mg "min" = none
  z_range : mg "range" = none
  z_sorted : mg "sorted" = none
  z_tuple : mg "tuple" = none
  z_zip : mg "zip" = none
  C_NoLookers : Addr
  C_NoLot : Addr
  C_NoPlan : Addr
  C_NoTree : Addr
  C_NoWarren : Addr
  x_NoLookers : XCls K mg "NoLookers" C_NoLookers
  x_NoLot : XCls K mg "NoLot" C_NoLot
  x_NoPlan : XCls K mg "NoPlan" C_NoPlan
  x_NoWarren : XCls K mg "NoWarren" C_NoWarren
  C_FoxError : Addr
  gF : mg "FoxError" = some (.ref C_FoxError)
  k5 : K5 mg C_NoLookers C_NoLot C_NoPlan C_NoTree C_NoWarren
  kf : ∀ x ∈ kindNames, ∃ C, KF K mg C_FoxError C_NoLookers C_NoLot C_NoPlan C_NoTree C_NoWarren x C

def t_is_from  : DS := (sRet (dAndV (dIsi "int" (dVar 0)) (dAndV (dNotV (dIsi "bool" (dVar 0))) (dChain leD leD (dVar 1) (dVar 0) (dVar 2)))))
theorem der_is_from {P : Program} {w : World} {K : PySem.W.Frag} {mg : Str → Option Value} {base : Heap} (D : Md K mg)  (cdv : Value) (A : Around) (outer : List PySem.Env) (s : Shared) (H : Hp) (E : XK)
    (hr : Room 0 (A.deeper (envOfC "is_from" (defScope s_is_from) s.heap.objs.size D.a_is_from cdv))) : PSs (cxOf CX0 P w K mg base ["thing", "low", "high"] "is_from" (defScope s_is_from) D.a_is_from cdv A outer s H E).nox (defBody s_is_from) (upS K W0 false (t_is_from )) :=
  (ds_one (ds_ret (de_and (de_isi (T := "int") (by decide) (by rfl) D.z_isinstance (pe_bltn (v := .ty "int") (by rfl) D.z_int (by decide +kernel) rfl) (de_var 0)) (de_and (de_not (de_isi (T := "bool") (by decide) (by rfl) D.z_isinstance (pe_bltn (v := .ty "bool") (by rfl) D.z_bool (by decide +kernel) rfl) (de_var 0))) (de_one (de_chain op_le op_le b_le b_le (de_var 1) (de_var 0) (de_var 2)))))))
theorem fn_is_from {P : Program} {w : World} {K : PySem.W.Frag} {mg : Str → Option Value} {base : Heap} (D : Md K mg)  {φ : F0} (h : ∀ ds k x, φ ds k x → ds.length = 3 ∧ t_is_from  (endF0 false k x) (envF0 ["thing", "low", "high"] ds)) : FnOk P w K mg base CX0 1 D.a_is_from D.d_is_from ["thing", "low", "high"] (spF0 K EW0 false φ) :=
  fn_F0 D.F_is_from sc_is_from rfl h fun cdv A outer s H E hr => der_is_from D  cdv A outer s H E hr

def t_is_passage (φ_is_from : F0) : DS := (sSeq (sIf (dtOr (dtNot (dtTru (dIsi "tuple" (dVar 1)))) (dtOr (dtB (dOp neOp (dCall lenF (daCons (dVar 1) daNil)) (dC (.int 2)))) (dtNot (dtTru (dCall allF (daCons (dLc (diSeq (dVar 1)) (dgName 2) dtYes (dF0 φ_is_from (daCons (dVar 2) (daCons (dC (.int 0)) (daCons (dOp subD (dVar 0) (dC (.int 1))) daNil)))) [2]) daNil)))))) (sRet (dC (.bl false))) sNext) (sRet (dOp ltD (dOp ixD (dVar 1) (dC (.int 0))) (dOp ixD (dVar 1) (dC (.int 1))))))
theorem der_is_passage {P : Program} {w : World} {K : PySem.W.Frag} {mg : Str → Option Value} {base : Heap} (D : Md K mg) {φ_is_from : F0} (G_is_from : FnOk P w K mg base CX0 1 D.a_is_from D.d_is_from ["thing", "low", "high"] (spF0 K EW0 false φ_is_from)) (cdv : Value) (A : Around) (outer : List PySem.Env) (s : Shared) (H : Hp) (E : XK)
    (hr : Room 1 (A.deeper (envOfC "is_passage" (defScope s_is_passage) s.heap.objs.size D.a_is_passage cdv))) : PSs (cxOf CX0 P w K mg base ["holes", "thing", "one"] "is_passage" (defScope s_is_passage) D.a_is_passage cdv A outer s H E).nox (defBody s_is_passage) (upS K W0 false (t_is_passage φ_is_from)) :=
  (ds_cons (ds_if (dw_or (dt_not (dt_tru (de_isi (T := "tuple") (by decide) (by rfl) D.z_isinstance (pe_bltn (v := .ty "tuple") (by rfl) D.z_tuple (by decide +kernel) rfl) (de_var 1)))) (dw_or (dt_cmp (op_neD hr.u64) b_ne (de_callB call_len_seq c_len (by rfl) D.z_len (by decide +kernel) (da_cons (de_var 1) da_nil)) de_int (by rfl)) (dw_or1 (dt_not (dt_tru (de_callB (cr_all (by rfl)) c_all (by rfl) D.z_all (by decide +kernel) (da_cons (de_F (de_lc (own := [("one", 2)]) [2] rfl (by rfl) sc_is_passage.nd (di_seq (de_var 1)) (blkOk_by (N := ["holes", "thing", "one"]) (sc := defScope s_is_passage) (by decide +kernel)) (fun _ _ _ _ _ => (dg_name (vs := [2]) sc_is_passage.nd rfl (by first | exact Or.inl rfl | exact Or.inr rfl) (by decide))) (fun _ _ _ _ _ => dts_nil) (fun _ _ _ _ _ => (de_f0 ((G_is_from).mono (by decide)) hr (by rfl) D.m_is_from D.F_is_from.kp D.b_is_from (da_cons (de_var 2) (da_cons de_int (da_cons (de_op op_sub b_sub (de_var 0) de_int) da_nil))))))) da_nil))))))).pt (ds_one (ds_ret de_bl)) ds_nil) (ds_one (ds_ret (de_cmp (op_ltA hr.u0) b_lt (de_ix ix_seq b_ix (de_var 1) de_int (fun _ _ => rfl)) (de_ix ix_seq b_ix (de_var 1) de_int (fun _ _ => rfl)) (by rfl)))))
theorem fn_is_passage {P : Program} {w : World} {K : PySem.W.Frag} {mg : Str → Option Value} {base : Heap} (D : Md K mg) {φ_is_from : F0} (G_is_from : FnOk P w K mg base CX0 1 D.a_is_from D.d_is_from ["thing", "low", "high"] (spF0 K EW0 false φ_is_from)) {φ : F0} (h : ∀ ds k x, φ ds k x → ds.length = 2 ∧ t_is_passage φ_is_from (endF0 false k x) (envF0 ["holes", "thing", "one"] ds)) : FnOk P w K mg base CX0 2 D.a_is_passage D.d_is_passage ["holes", "thing"] (spF0 K EW0 false φ) :=
  fn_F0 D.F_is_passage sc_is_passage rfl h fun cdv A outer s H E hr => der_is_passage D G_is_from cdv A outer s H E hr

def t_is_warren (φ_is_from : F0) (φ_is_passage : F0) : DS := (sSeq (sIf (dtOr (dtNot (dtTru (dIsi "tuple" (dVar 0)))) (dtOr (dtB (dOp neOp (dCall lenF (daCons (dVar 0) daNil)) (dC (.int 2)))) (dtNot (dtTru (dF0 φ_is_from (daCons (dOp ixD (dVar 0) (dC (.int 0))) (daCons (dC (.int 2)) (daCons (dC (.int 10)) daNil)))))))) (sRet (dC (.bl false))) sNext) (sSeq (sUnp [1, 2] (dVar 0)) (sSeq (sIf (dtOr (dtNot (dtTru (dIsi "tuple" (dVar 2)))) (dtNot (dtTru (dCall allF (daCons (dLc (diSeq (dVar 2)) (dgName 3) dtYes (dF0 φ_is_passage (daCons (dVar 1) (daCons (dVar 3) daNil))) [3]) daNil))))) (sRet (dC (.bl false))) sNext) (sSeq (sIf (dtNot (dtTru (dCall allF (daCons (dLc (diZip (dVar 2) (dSl (dVar 2) (dpS (dC (.int 1))) dpN)) (dgTup [3, 4]) dtYes (dOp ltD (dVar 3) (dVar 4)) [3, 4]) daNil)))) (sRet (dC (.bl false))) sNext) (sRet (dCall allF (daCons (dLc (diRng1 (dVar 1)) (dgName 5) dtYes (dCall anyF (daCons (dLc (diSeq (dVar 2)) (dgName 3) dtYes (dOp inOp (dVar 5) (dVar 3)) [3]) daNil)) [5]) daNil)))))))
theorem der_is_warren {P : Program} {w : World} {K : PySem.W.Frag} {mg : Str → Option Value} {base : Heap} (D : Md K mg) {φ_is_from : F0} (G_is_from : FnOk P w K mg base CX0 1 D.a_is_from D.d_is_from ["thing", "low", "high"] (spF0 K EW0 false φ_is_from)) {φ_is_passage : F0} (G_is_passage : FnOk P w K mg base CX0 2 D.a_is_passage D.d_is_passage ["holes", "thing"] (spF0 K EW0 false φ_is_passage)) (cdv : Value) (A : Around) (outer : List PySem.Env) (s : Shared) (H : Hp) (E : XK)
    (hr : Room 2 (A.deeper (envOfC "is_warren" (defScope s_is_warren) s.heap.objs.size D.a_is_warren cdv))) : PSs (cxOf CX0 P w K mg base ["thing", "holes", "passages", "one", "other", "hole"] "is_warren" (defScope s_is_warren) D.a_is_warren cdv A outer s H E).nox (defBody s_is_warren) (upS K W0 false (t_is_warren φ_is_from φ_is_passage)) :=
  (ds_cons (ds_if (dw_or (dt_not (dt_tru (de_isi (T := "tuple") (by decide) (by rfl) D.z_isinstance (pe_bltn (v := .ty "tuple") (by rfl) D.z_tuple (by decide +kernel) rfl) (de_var 0)))) (dw_or (dt_cmp (op_neD hr.u64) b_ne (de_callB call_len_seq c_len (by rfl) D.z_len (by decide +kernel) (da_cons (de_var 0) da_nil)) de_int (by rfl)) (dw_or1 (dt_not (dt_tru (de_f0 ((G_is_from).mono (by decide)) hr (by rfl) D.m_is_from D.F_is_from.kp D.b_is_from (da_cons (de_ix ix_seq b_ix (de_var 0) de_int (fun _ _ => rfl)) (da_cons de_int (da_cons (de_globI (by rfl) D.c_HOLES) da_nil))))))))).pt (ds_one (ds_ret de_bl)) ds_nil) (ds_cons (ds_unp (de_var 0) (dg_tup (by rfl) (dgs_cons (vs := [1, 2]) sc_is_warren.nd rfl (by first | exact Or.inl rfl | exact Or.inr rfl) (by decide) (dgs_cons (vs := [1, 2]) sc_is_warren.nd rfl (by first | exact Or.inl rfl | exact Or.inr rfl) (by decide) (dgs_nil (vs := [1, 2])))) (by rfl))) (ds_cons (ds_if (dw_or (dt_not (dt_tru (de_isi (T := "tuple") (by decide) (by rfl) D.z_isinstance (pe_bltn (v := .ty "tuple") (by rfl) D.z_tuple (by decide +kernel) rfl) (de_var 2)))) (dw_or1 (dt_not (dt_tru (de_callB (cr_all (by rfl)) c_all (by rfl) D.z_all (by decide +kernel) (da_cons (de_F (de_lc (own := [("one", 3)]) [3] rfl (by rfl) sc_is_warren.nd (di_seq (de_var 2)) (blkOk_by (N := ["thing", "holes", "passages", "one", "other", "hole"]) (sc := defScope s_is_warren) (by decide +kernel)) (fun _ _ _ _ _ => (dg_name (vs := [3]) sc_is_warren.nd rfl (by first | exact Or.inl rfl | exact Or.inr rfl) (by decide))) (fun _ _ _ _ _ => dts_nil) (fun _ _ _ _ _ => (de_f0 ((G_is_passage).mono (by decide)) hr (by rfl) D.m_is_passage D.F_is_passage.kp D.b_is_passage (da_cons (de_var 1) (da_cons (de_var 3) da_nil)))))) da_nil)))))).pt (ds_one (ds_ret de_bl)) ds_nil) (ds_cons (ds_if (dt_not (dt_tru (de_callB (cr_all (by rfl)) c_all (by rfl) D.z_all (by decide +kernel) (da_cons (de_F (de_lc (own := [("one", 3), ("other", 4)]) [3, 4] rfl (by rfl) sc_is_warren.nd (di_zip (by rfl) D.z_zip (de_var 2) (de_sl (de_var 2) (dp_some de_int) dp_none)) (blkOk_by (N := ["thing", "holes", "passages", "one", "other", "hole"]) (sc := defScope s_is_warren) (by decide +kernel)) (fun _ _ _ _ _ => (dg_tup (by rfl) (dgs_cons (vs := [3, 4]) sc_is_warren.nd rfl (by first | exact Or.inl rfl | exact Or.inr rfl) (by decide) (dgs_cons (vs := [3, 4]) sc_is_warren.nd rfl (by first | exact Or.inl rfl | exact Or.inr rfl) (by decide) (dgs_nil (vs := [3, 4])))) (by rfl))) (fun _ _ _ _ _ => dts_nil) (fun _ _ _ _ _ => (de_cmp (op_ltA hr.u0) b_lt (de_var 3) (de_var 4) (by rfl))))) da_nil)))) (ds_one (ds_ret de_bl)) ds_nil) (ds_one (ds_ret (de_callB (cr_all (by rfl)) c_all (by rfl) D.z_all (by decide +kernel) (da_cons (de_F (de_lc (own := [("hole", 5)]) [5] rfl (by rfl) sc_is_warren.nd (di_rng1 (by rfl) D.z_range (de_var 1)) (blkOk_by (N := ["thing", "holes", "passages", "one", "other", "hole"]) (sc := defScope s_is_warren) (by decide +kernel)) (fun _ _ _ _ _ => (dg_name (vs := [5]) sc_is_warren.nd rfl (by first | exact Or.inl rfl | exact Or.inr rfl) (by decide))) (fun _ _ _ _ _ => dts_nil) (fun _ _ _ _ _ => (de_callB (cr_any (by rfl)) c_any (by rfl) D.z_any (by decide +kernel) (da_cons (de_F (de_lc (own := [("one", 3)]) [3] rfl (by rfl) sc_is_warren.nd (di_seq (de_var 2)) (blkOk_by (N := ["thing", "holes", "passages", "one", "other", "hole"]) (sc := { kind := PySem.ScopeKind.function, names := [(PySem.Str.ofString ".0", PySem.NameKind.local), (PySem.Str.ofString "hole", PySem.NameKind.cell), (PySem.Str.ofString "any", PySem.NameKind.globalImplicit), (PySem.Str.ofString "passages", PySem.NameKind.cell)], isGenerator := false, isCoroutine := false, more := [] }) (by decide +kernel)) (fun _ _ _ _ _ => (dg_name (vs := [3]) sc_is_warren.nd rfl (by first | exact Or.inl rfl | exact Or.inr rfl) (by decide))) (fun _ _ _ _ _ => dts_nil) (fun _ _ _ _ _ => (de_cmp (op_inA hr.u65) b_in (de_var 5) (de_var 3) (by rfl))))) da_nil))))) da_nil))))))))
theorem fn_is_warren {P : Program} {w : World} {K : PySem.W.Frag} {mg : Str → Option Value} {base : Heap} (D : Md K mg) {φ_is_from : F0} (G_is_from : FnOk P w K mg base CX0 1 D.a_is_from D.d_is_from ["thing", "low", "high"] (spF0 K EW0 false φ_is_from)) {φ_is_passage : F0} (G_is_passage : FnOk P w K mg base CX0 2 D.a_is_passage D.d_is_passage ["holes", "thing"] (spF0 K EW0 false φ_is_passage)) {φ : F0} (h : ∀ ds k x, φ ds k x → ds.length = 1 ∧ t_is_warren φ_is_from φ_is_passage (endF0 false k x) (envF0 ["thing", "holes", "passages", "one", "other", "hole"] ds)) : FnOk P w K mg base CX0 3 D.a_is_warren D.d_is_warren ["thing"] (spF0 K EW0 false φ) :=
  fn_F0 D.F_is_warren sc_is_warren rfl h fun cdv A outer s H E hr => der_is_warren D G_is_from G_is_passage cdv A outer s H E hr

def t_good_lot (φ_is_from : F0) : DS := (sSeq (sIf (dtOr (dtNot (dtTru (dIsi "tuple" (dVar 1)))) (dtNot (dtTru (dCall allF (daCons (dLc (diSeq (dVar 1)) (dgName 2) dtYes (dF0 φ_is_from (daCons (dVar 2) (daCons (dC (.int 0)) (daCons (dOp subD (dOp ixD (dVar 0) (dC (.int 0))) (dC (.int 1))) daNil)))) [2]) daNil))))) (sRet (dC (.bl false))) sNext) (sRet (dCall allF (daCons (dLc (diZip (dVar 1) (dSl (dVar 1) (dpS (dC (.int 1))) dpN)) (dgTup [3, 4]) dtYes (dOp ltD (dVar 3) (dVar 4)) [3, 4]) daNil))))
theorem der_good_lot {P : Program} {w : World} {K : PySem.W.Frag} {mg : Str → Option Value} {base : Heap} (D : Md K mg) {φ_is_from : F0} (G_is_from : FnOk P w K mg base CX0 1 D.a_is_from D.d_is_from ["thing", "low", "high"] (spF0 K EW0 false φ_is_from)) (cdv : Value) (A : Around) (outer : List PySem.Env) (s : Shared) (H : Hp) (E : XK)
    (hr : Room 1 (A.deeper (envOfC "good_lot" (defScope s_good_lot) s.heap.objs.size D.a_good_lot cdv))) : PSs (cxOf CX0 P w K mg base ["warren", "thing", "hole", "one", "other"] "good_lot" (defScope s_good_lot) D.a_good_lot cdv A outer s H E).nox (defBody s_good_lot) (upS K W0 false (t_good_lot φ_is_from)) :=
  (ds_cons (ds_if (dw_or (dt_not (dt_tru (de_isi (T := "tuple") (by decide) (by rfl) D.z_isinstance (pe_bltn (v := .ty "tuple") (by rfl) D.z_tuple (by decide +kernel) rfl) (de_var 1)))) (dw_or1 (dt_not (dt_tru (de_callB (cr_all (by rfl)) c_all (by rfl) D.z_all (by decide +kernel) (da_cons (de_F (de_lc (own := [("hole", 2)]) [2] rfl (by rfl) sc_good_lot.nd (di_seq (de_var 1)) (blkOk_by (N := ["warren", "thing", "hole", "one", "other"]) (sc := defScope s_good_lot) (by decide +kernel)) (fun _ _ _ _ _ => (dg_name (vs := [2]) sc_good_lot.nd rfl (by first | exact Or.inl rfl | exact Or.inr rfl) (by decide))) (fun _ _ _ _ _ => dts_nil) (fun _ _ _ _ _ => (de_f0 ((G_is_from).mono (by decide)) hr (by rfl) D.m_is_from D.F_is_from.kp D.b_is_from (da_cons (de_var 2) (da_cons de_int (da_cons (de_op op_sub b_sub (de_ix ix_seq b_ix (de_var 0) de_int (fun _ _ => rfl)) de_int) da_nil))))))) da_nil)))))).pt (ds_one (ds_ret de_bl)) ds_nil) (ds_one (ds_ret (de_callB (cr_all (by rfl)) c_all (by rfl) D.z_all (by decide +kernel) (da_cons (de_F (de_lc (own := [("one", 3), ("other", 4)]) [3, 4] rfl (by rfl) sc_good_lot.nd (di_zip (by rfl) D.z_zip (de_var 1) (de_sl (de_var 1) (dp_some de_int) dp_none)) (blkOk_by (N := ["warren", "thing", "hole", "one", "other"]) (sc := defScope s_good_lot) (by decide +kernel)) (fun _ _ _ _ _ => (dg_tup (by rfl) (dgs_cons (vs := [3, 4]) sc_good_lot.nd rfl (by first | exact Or.inl rfl | exact Or.inr rfl) (by decide) (dgs_cons (vs := [3, 4]) sc_good_lot.nd rfl (by first | exact Or.inl rfl | exact Or.inr rfl) (by decide) (dgs_nil (vs := [3, 4])))) (by rfl))) (fun _ _ _ _ _ => dts_nil) (fun _ _ _ _ _ => (de_cmp (op_ltA hr.u0) b_lt (de_var 3) (de_var 4) (by rfl))))) da_nil)))))
theorem fn_good_lot {P : Program} {w : World} {K : PySem.W.Frag} {mg : Str → Option Value} {base : Heap} (D : Md K mg) {φ_is_from : F0} (G_is_from : FnOk P w K mg base CX0 1 D.a_is_from D.d_is_from ["thing", "low", "high"] (spF0 K EW0 false φ_is_from)) {φ : F0} (h : ∀ ds k x, φ ds k x → ds.length = 2 ∧ t_good_lot φ_is_from (endF0 false k x) (envF0 ["warren", "thing", "hole", "one", "other"] ds)) : FnOk P w K mg base CX0 2 D.a_good_lot D.d_good_lot ["warren", "thing"] (spF0 K EW0 false φ) :=
  fn_F0 D.F_good_lot sc_good_lot rfl h fun cdv A outer s H E hr => der_good_lot D G_is_from cdv A outer s H E hr

def t_look_warren (φ_is_warren : F0) : DS := (sIf (dtNot (dtTru (dF0n φ_is_warren (daCons (dVar 0) daNil)))) (sRaise "NoWarren") sNext)
theorem der_look_warren {P : Program} {w : World} {K : PySem.W.Frag} {mg : Str → Option Value} {base : Heap} (D : Md K mg) {φ_is_warren : F0} (G_is_warren : FnOk P w K mg base CX0 3 D.a_is_warren D.d_is_warren ["thing"] (spF0 K EW0 false φ_is_warren)) (cdv : Value) (A : Around) (outer : List PySem.Env) (s : Shared) (H : Hp) (E : XK)
    (hr : Room 3 (A.deeper (envOfC "look_warren" (defScope s_look_warren) s.heap.objs.size D.a_look_warren cdv))) : PSs (cxOf (L2N.CX P w) P w K mg base ["warren"] "look_warren" (defScope s_look_warren) D.a_look_warren cdv A outer s H E) (defBody s_look_warren) (upS K (EWx mg E) false (t_look_warren φ_is_warren)) :=
  (ds_one (ds_if (dt_not (dt_tru (de_f0n ((G_is_warren).mono (by decide)) hr (by rfl) D.m_is_warren D.F_is_warren.kp D.b_is_warren (da_cons (de_var 0) da_nil)))) (ds_one (ds_raiseN rfl (L2N.takes_of rfl rfl rfl rfl) D.x_NoWarren (by rfl))) ds_nil))
theorem fn_look_warren {P : Program} {w : World} {K : PySem.W.Frag} {mg : Str → Option Value} {base : Heap} (D : Md K mg) {φ_is_warren : F0} (G_is_warren : FnOk P w K mg base CX0 3 D.a_is_warren D.d_is_warren ["thing"] (spF0 K EW0 false φ_is_warren)) {φ : F0} (h : ∀ ds k x, φ ds k x → ds.length = 1 ∧ t_look_warren φ_is_warren (endF0 false k x) (envF0 ["warren"] ds)) : FnOk P w K mg base (L2N.CX P w) 4 D.a_look_warren D.d_look_warren ["warren"] (spF0 K (EWx mg) false φ) :=
  fn_F0N D.F_look_warren sc_look_warren rfl h fun cdv A outer s H E hr => der_look_warren D G_is_warren cdv A outer s H E hr

def t_look_lookers (φ_is_from : F0) : DS := (sIf (dtNot (dtTru (dF0n φ_is_from (daCons (dVar 0) (daCons (dC (.int 1)) (daCons (dC (.int 4)) daNil)))))) (sRaise "NoLookers") sNext)
theorem der_look_lookers {P : Program} {w : World} {K : PySem.W.Frag} {mg : Str → Option Value} {base : Heap} (D : Md K mg) {φ_is_from : F0} (G_is_from : FnOk P w K mg base CX0 1 D.a_is_from D.d_is_from ["thing", "low", "high"] (spF0 K EW0 false φ_is_from)) (cdv : Value) (A : Around) (outer : List PySem.Env) (s : Shared) (H : Hp) (E : XK)
    (hr : Room 1 (A.deeper (envOfC "look_lookers" (defScope s_look_lookers) s.heap.objs.size D.a_look_lookers cdv))) : PSs (cxOf (L2N.CX P w) P w K mg base ["lookers"] "look_lookers" (defScope s_look_lookers) D.a_look_lookers cdv A outer s H E) (defBody s_look_lookers) (upS K (EWx mg E) false (t_look_lookers φ_is_from)) :=
  (ds_one (ds_if (dt_not (dt_tru (de_f0n ((G_is_from).mono (by decide)) hr (by rfl) D.m_is_from D.F_is_from.kp D.b_is_from (da_cons (de_var 0) (da_cons de_int (da_cons (de_globI (by rfl) D.c_LOOKERS) da_nil)))))) (ds_one (ds_raiseN rfl (L2N.takes_of rfl rfl rfl rfl) D.x_NoLookers (by rfl))) ds_nil))
theorem fn_look_lookers {P : Program} {w : World} {K : PySem.W.Frag} {mg : Str → Option Value} {base : Heap} (D : Md K mg) {φ_is_from : F0} (G_is_from : FnOk P w K mg base CX0 1 D.a_is_from D.d_is_from ["thing", "low", "high"] (spF0 K EW0 false φ_is_from)) {φ : F0} (h : ∀ ds k x, φ ds k x → ds.length = 1 ∧ t_look_lookers φ_is_from (endF0 false k x) (envF0 ["lookers"] ds)) : FnOk P w K mg base (L2N.CX P w) 2 D.a_look_lookers D.d_look_lookers ["lookers"] (spF0 K (EWx mg) false φ) :=
  fn_F0N D.F_look_lookers sc_look_lookers rfl h fun cdv A outer s H E hr => der_look_lookers D G_is_from cdv A outer s H E hr

def t_look_lot (φ_good_lot : F0) : DS := (sIf (dtNot (dtTru (dF0n φ_good_lot (daCons (dVar 0) (daCons (dVar 1) daNil))))) (sRaise "NoLot") sNext)
theorem der_look_lot {P : Program} {w : World} {K : PySem.W.Frag} {mg : Str → Option Value} {base : Heap} (D : Md K mg) {φ_good_lot : F0} (G_good_lot : FnOk P w K mg base CX0 2 D.a_good_lot D.d_good_lot ["warren", "thing"] (spF0 K EW0 false φ_good_lot)) (cdv : Value) (A : Around) (outer : List PySem.Env) (s : Shared) (H : Hp) (E : XK)
    (hr : Room 2 (A.deeper (envOfC "look_lot" (defScope s_look_lot) s.heap.objs.size D.a_look_lot cdv))) : PSs (cxOf (L2N.CX P w) P w K mg base ["warren", "lot"] "look_lot" (defScope s_look_lot) D.a_look_lot cdv A outer s H E) (defBody s_look_lot) (upS K (EWx mg E) false (t_look_lot φ_good_lot)) :=
  (ds_one (ds_if (dt_not (dt_tru (de_f0n ((G_good_lot).mono (by decide)) hr (by rfl) D.m_good_lot D.F_good_lot.kp D.b_good_lot (da_cons (de_var 0) (da_cons (de_var 1) da_nil))))) (ds_one (ds_raiseN rfl (L2N.takes_of rfl rfl rfl rfl) D.x_NoLot (by rfl))) ds_nil))
theorem fn_look_lot {P : Program} {w : World} {K : PySem.W.Frag} {mg : Str → Option Value} {base : Heap} (D : Md K mg) {φ_good_lot : F0} (G_good_lot : FnOk P w K mg base CX0 2 D.a_good_lot D.d_good_lot ["warren", "thing"] (spF0 K EW0 false φ_good_lot)) {φ : F0} (h : ∀ ds k x, φ ds k x → ds.length = 2 ∧ t_look_lot φ_good_lot (endF0 false k x) (envF0 ["warren", "lot"] ds)) : FnOk P w K mg base (L2N.CX P w) 3 D.a_look_lot D.d_look_lot ["warren", "lot"] (spF0 K (EWx mg) false φ) :=
  fn_F0N D.F_look_lot sc_look_lot rfl h fun cdv A outer s H E hr => der_look_lot D G_good_lot cdv A outer s H E hr

def t_is_lot (φX_look_warren : F0) (φ_good_lot : F0) : DS := (sSeq (sExpr (dF0 φX_look_warren (daCons (dVar 0) daNil))) (sRet (dF0n φ_good_lot (daCons (dVar 0) (daCons (dVar 1) daNil)))))
theorem der_is_lot {P : Program} {w : World} {K : PySem.W.Frag} {mg : Str → Option Value} {base : Heap} (D : Md K mg) {φX_look_warren : F0} (GX_look_warren : FnOk P w K mg base (L2N.CX P w) 4 D.a_look_warren D.d_look_warren ["warren"] (spF0 K (EWx mg) false φX_look_warren)) {φ_good_lot : F0} (G_good_lot : FnOk P w K mg base CX0 2 D.a_good_lot D.d_good_lot ["warren", "thing"] (spF0 K EW0 false φ_good_lot)) (cdv : Value) (A : Around) (outer : List PySem.Env) (s : Shared) (H : Hp) (E : XK)
    (hr : Room 4 (A.deeper (envOfC "is_lot" (defScope s_is_lot) s.heap.objs.size D.a_is_lot cdv))) : PSs (cxOf (L2N.CX P w) P w K mg base ["warren", "thing"] "is_lot" (defScope s_is_lot) D.a_is_lot cdv A outer s H E) (defBody s_is_lot) (upS K (EWx mg E) false (t_is_lot φX_look_warren φ_good_lot)) :=
  (ds_cons (ds_expr (de_f0X (L2N.takes_of rfl rfl rfl rfl) ((GX_look_warren).mono (by decide)) hr (by rfl) D.m_look_warren D.F_look_warren.kp D.b_look_warren (da_cons (de_var 0) da_nil))) (ds_one (ds_ret (de_f0n ((G_good_lot).mono (by decide)) hr (by rfl) D.m_good_lot D.F_good_lot.kp D.b_good_lot (da_cons (de_var 0) (da_cons (de_var 1) da_nil))))))
theorem fn_is_lot {P : Program} {w : World} {K : PySem.W.Frag} {mg : Str → Option Value} {base : Heap} (D : Md K mg) {φX_look_warren : F0} (GX_look_warren : FnOk P w K mg base (L2N.CX P w) 4 D.a_look_warren D.d_look_warren ["warren"] (spF0 K (EWx mg) false φX_look_warren)) {φ_good_lot : F0} (G_good_lot : FnOk P w K mg base CX0 2 D.a_good_lot D.d_good_lot ["warren", "thing"] (spF0 K EW0 false φ_good_lot)) {φ : F0} (h : ∀ ds k x, φ ds k x → ds.length = 2 ∧ t_is_lot φX_look_warren φ_good_lot (endF0 false k x) (envF0 ["warren", "thing"] ds)) : FnOk P w K mg base (L2N.CX P w) 5 D.a_is_lot D.d_is_lot ["warren", "thing"] (spF0 K (EWx mg) false φ) :=
  fn_F0N D.F_is_lot sc_is_lot rfl h fun cdv A outer s H E hr => der_is_lot D GX_look_warren G_good_lot cdv A outer s H E hr

def t_next_to  : DS := (sRet (dCall sortF (daCons (dLc2 (diSeq (dOp ixD (dVar 0) (dC (.int 1)))) (dgName 2) dtYes (diSeq (dVar 2)) (dgName 3) (dtAnd (dtB (dOp inOp (dVar 1) (dVar 2))) (dtB (dOp neOp (dVar 3) (dVar 1)))) (dVar 3) [2, 3] [3]) daNil)))
theorem der_next_to {P : Program} {w : World} {K : PySem.W.Frag} {mg : Str → Option Value} {base : Heap} (D : Md K mg)  (cdv : Value) (A : Around) (outer : List PySem.Env) (s : Shared) (H : Hp) (E : XK)
    (hr : Room 0 (A.deeper (envOfC "next_to" (defScope s_next_to) s.heap.objs.size D.a_next_to cdv))) : PSs (cxOf CX0 P w K mg base ["warren", "hole", "pair", "one"] "next_to" (defScope s_next_to) D.a_next_to cdv A outer s H E).nox (defBody s_next_to) (upS K W0 false (t_next_to )) :=
  (ds_one (ds_ret (de_F (de_callBF (cr_sortL hr.u65) c_sortL (by rfl) D.z_sorted (by decide +kernel) (da_cons (de_F (de_lc2 (own := [("pair", 2), ("one", 3)]) [2, 3] [3] rfl (by decide) (by rfl) sc_next_to.nd (di_seq (de_ix ix_seq b_ix (de_var 0) de_int (fun _ _ => rfl))) (blkOk_by (N := ["warren", "hole", "pair", "one"]) (sc := defScope s_next_to) (by decide +kernel)) (fun _ _ _ _ _ => (dg_name (vs := [2, 3]) sc_next_to.nd rfl (by first | exact Or.inl rfl | exact Or.inr rfl) (by decide))) (fun _ _ _ _ _ => dts_nil) (fun _ _ _ _ _ => (di_seq (de_var 2))) (fun _ _ _ _ _ => (dg_name (vs := [3]) sc_next_to.nd rfl (by first | exact Or.inl rfl | exact Or.inr rfl) (by decide))) (fun _ _ _ _ _ => (dts_one (dw_and (dt_cmp (op_inA hr.u65) b_in (de_var 1) (de_var 2) (by rfl)) (dw_and1 (dt_cmp (op_neD hr.u64) b_ne (de_var 3) (de_var 1) (by rfl)))).pt)) (fun _ _ _ _ _ => (de_var 3)))) da_nil)))))
theorem fn_next_to {P : Program} {w : World} {K : PySem.W.Frag} {mg : Str → Option Value} {base : Heap} (D : Md K mg)  {φ : F0} (h : ∀ ds k x, φ ds k x → ds.length = 2 ∧ t_next_to  (endF0 false k x) (envF0 ["warren", "hole", "pair", "one"] ds)) : FnOk P w K mg base CX0 1 D.a_next_to D.d_next_to ["warren", "hole"] (spF0 K EW0 false φ) :=
  fn_F0 D.F_next_to sc_next_to rfl h fun cdv A outer s H E hr => der_next_to D  cdv A outer s H E hr

def t_later (φ_next_to : F0) : DS := (sSeq (sAsgO 3 (dC (.dI []))) (sSeq (sFor (diSeq (dVar 1)) (dgName 4) (sIf (dtB (dOp notInOp (dVar 4) (dVar 2))) (sFor (diSeq (dF0 φ_next_to (daCons (dVar 0) (daCons (dVar 4) daNil)))) (dgName 5) (sPutD 3 (dVar 5) (dC (.bl true)))) sNext)) (sRet (dPur (dCall tupF (daCons (dCall sortIF (daCons (dVar 3) daNil)) daNil))))))
theorem der_later {P : Program} {w : World} {K : PySem.W.Frag} {mg : Str → Option Value} {base : Heap} (D : Md K mg) {φ_next_to : F0} (G_next_to : FnOk P w K mg base CX0 1 D.a_next_to D.d_next_to ["warren", "hole"] (spF0 K EW0 false φ_next_to)) (cdv : Value) (A : Around) (outer : List PySem.Env) (s : Shared) (H : Hp) (E : XK)
    (hr : Room 1 (A.deeper (envOfC "later" (defScope s_later) s.heap.objs.size D.a_later cdv))) : PSs (cxOf CX0 P w K mg base ["warren", "where", "lot", "found", "hole", "one"] "later" (defScope s_later) D.a_later cdv A outer s H E).nox (defBody s_later) (upS K W0 false (t_later φ_next_to)) :=
  (ds_cons (ds_setO sc_later.nd rfl (by first | exact Or.inl rfl | exact Or.inr rfl) de_newI) (ds_cons (ds_for (vs := [4]) PassesOwn.never (by rfl) (di_seq (de_var 1)) (dg_name (vs := [4]) sc_later.nd rfl (by first | exact Or.inl rfl | exact Or.inr rfl) (by decide)) (ds_one (ds_if (dt_cmp (op_notInA hr.u65) b_notin (de_var 4) (de_var 2) (by rfl)) (ds_one (ds_for (vs := [5]) PassesOwn.never (by rfl) (di_seq (de_f0 ((G_next_to).mono (by decide)) hr (by rfl) D.m_next_to D.F_next_to.kp D.b_next_to (da_cons (de_var 0) (da_cons (de_var 4) da_nil)))) (dg_name (vs := [5]) sc_later.nd rfl (by first | exact Or.inl rfl | exact Or.inr rfl) (by decide)) (ds_one (ds_putD (ps_dput hr.u1 (pv 3) (de_var 5) de_bl (by rfl)))))) ds_nil))) (ds_one (ds_ret (de_pur (de_callT call_tuple_of c_tuple (by rfl) D.z_tuple (by decide +kernel) (da_cons (de_F (de_callBF (call_sortedDI (by rfl)) c_sortI (by rfl) D.z_sorted (by decide +kernel) (da_cons (de_var 3) da_nil))) da_nil)))))))
theorem fn_later {P : Program} {w : World} {K : PySem.W.Frag} {mg : Str → Option Value} {base : Heap} (D : Md K mg) {φ_next_to : F0} (G_next_to : FnOk P w K mg base CX0 1 D.a_next_to D.d_next_to ["warren", "hole"] (spF0 K EW0 false φ_next_to)) {φ : F0} (h : ∀ ds k x, φ ds k x → ds.length = 3 ∧ t_later φ_next_to (endF0 false k x) (envF0 ["warren", "where", "lot", "found", "hole", "one"] ds)) : FnOk P w K mg base CX0 2 D.a_later D.d_later ["warren", "where", "lot"] (spF0 K EW0 false φ) :=
  fn_F0 D.F_later sc_later rfl h fun cdv A outer s H E hr => der_later D G_next_to cdv A outer s H E hr

def t_behind (φX_look_warren : F0) (φX_look_lot : F0) (φ_later : F0) : DS := (sSeq (sExpr (dF0 φX_look_warren (daCons (dVar 0) daNil))) (sSeq (sExpr (dF0 φX_look_lot (daCons (dVar 0) (daCons (dVar 1) daNil)))) (sSeq (sExpr (dF0 φX_look_lot (daCons (dVar 0) (daCons (dVar 2) daNil)))) (sRet (dF0n φ_later (daCons (dVar 0) (daCons (dVar 1) (daCons (dVar 2) daNil))))))))
theorem der_behind {P : Program} {w : World} {K : PySem.W.Frag} {mg : Str → Option Value} {base : Heap} (D : Md K mg) {φX_look_warren : F0} (GX_look_warren : FnOk P w K mg base (L2N.CX P w) 4 D.a_look_warren D.d_look_warren ["warren"] (spF0 K (EWx mg) false φX_look_warren)) {φX_look_lot : F0} (GX_look_lot : FnOk P w K mg base (L2N.CX P w) 3 D.a_look_lot D.d_look_lot ["warren", "lot"] (spF0 K (EWx mg) false φX_look_lot)) {φ_later : F0} (G_later : FnOk P w K mg base CX0 2 D.a_later D.d_later ["warren", "where", "lot"] (spF0 K EW0 false φ_later)) (cdv : Value) (A : Around) (outer : List PySem.Env) (s : Shared) (H : Hp) (E : XK)
    (hr : Room 4 (A.deeper (envOfC "behind" (defScope s_behind) s.heap.objs.size D.a_behind cdv))) : PSs (cxOf (L2N.CX P w) P w K mg base ["warren", "where", "lot"] "behind" (defScope s_behind) D.a_behind cdv A outer s H E) (defBody s_behind) (upS K (EWx mg E) false (t_behind φX_look_warren φX_look_lot φ_later)) :=
  (ds_cons (ds_expr (de_f0X (L2N.takes_of rfl rfl rfl rfl) ((GX_look_warren).mono (by decide)) hr (by rfl) D.m_look_warren D.F_look_warren.kp D.b_look_warren (da_cons (de_var 0) da_nil))) (ds_cons (ds_expr (de_f0X (L2N.takes_of rfl rfl rfl rfl) ((GX_look_lot).mono (by decide)) hr (by rfl) D.m_look_lot D.F_look_lot.kp D.b_look_lot (da_cons (de_var 0) (da_cons (de_var 1) da_nil)))) (ds_cons (ds_expr (de_f0X (L2N.takes_of rfl rfl rfl rfl) ((GX_look_lot).mono (by decide)) hr (by rfl) D.m_look_lot D.F_look_lot.kp D.b_look_lot (da_cons (de_var 0) (da_cons (de_var 2) da_nil)))) (ds_one (ds_ret (de_f0n ((G_later).mono (by decide)) hr (by rfl) D.m_later D.F_later.kp D.b_later (da_cons (de_var 0) (da_cons (de_var 1) (da_cons (de_var 2) da_nil)))))))))
theorem fn_behind {P : Program} {w : World} {K : PySem.W.Frag} {mg : Str → Option Value} {base : Heap} (D : Md K mg) {φX_look_warren : F0} (GX_look_warren : FnOk P w K mg base (L2N.CX P w) 4 D.a_look_warren D.d_look_warren ["warren"] (spF0 K (EWx mg) false φX_look_warren)) {φX_look_lot : F0} (GX_look_lot : FnOk P w K mg base (L2N.CX P w) 3 D.a_look_lot D.d_look_lot ["warren", "lot"] (spF0 K (EWx mg) false φX_look_lot)) {φ_later : F0} (G_later : FnOk P w K mg base CX0 2 D.a_later D.d_later ["warren", "where", "lot"] (spF0 K EW0 false φ_later)) {φ : F0} (h : ∀ ds k x, φ ds k x → ds.length = 3 ∧ t_behind φX_look_warren φX_look_lot φ_later (endF0 false k x) (envF0 ["warren", "where", "lot"] ds)) : FnOk P w K mg base (L2N.CX P w) 5 D.a_behind D.d_behind ["warren", "where", "lot"] (spF0 K (EWx mg) false φ) :=
  fn_F0N D.F_behind sc_behind rfl h fun cdv A outer s H E hr => der_behind D GX_look_warren GX_look_lot G_later cdv A outer s H E hr

def t_shows (φX_look_warren : F0) (φX_look_lookers : F0) (φX_look_lot : F0) : DS := (sSeq (sExpr (dF0 φX_look_warren (daCons (dVar 0) daNil))) (sSeq (sExpr (dF0 φX_look_lookers (daCons (dVar 1) daNil))) (sSeq (sExpr (dF0 φX_look_lot (daCons (dVar 0) (daCons (dVar 2) daNil)))) sNever)))
theorem der_shows {P : Program} {w : World} {K : PySem.W.Frag} {mg : Str → Option Value} {base : Heap} (D : Md K mg) {φX_look_warren : F0} (GX_look_warren : FnOk P w K mg base (L2N.CX P w) 4 D.a_look_warren D.d_look_warren ["warren"] (spF0 K (EWx mg) false φX_look_warren)) {φX_look_lookers : F0} (GX_look_lookers : FnOk P w K mg base (L2N.CX P w) 2 D.a_look_lookers D.d_look_lookers ["lookers"] (spF0 K (EWx mg) false φX_look_lookers)) {φX_look_lot : F0} (GX_look_lot : FnOk P w K mg base (L2N.CX P w) 3 D.a_look_lot D.d_look_lot ["warren", "lot"] (spF0 K (EWx mg) false φX_look_lot)) (cdv : Value) (A : Around) (outer : List PySem.Env) (s : Shared) (H : Hp) (E : XK)
    (hr : Room 4 (A.deeper (envOfC "shows" (defScope s_shows) s.heap.objs.size D.a_shows cdv))) : PSs (cxOf (L2N.CX P w) P w K mg base ["warren", "lookers", "where", "thing", "lot"] "shows" (defScope s_shows) D.a_shows cdv A outer s H E) (defBody s_shows) (upS K (EWx mg E) false (t_shows φX_look_warren φX_look_lookers φX_look_lot)) :=
  (ds_cons (ds_expr (de_f0X (L2N.takes_of rfl rfl rfl rfl) ((GX_look_warren).mono (by decide)) hr (by rfl) D.m_look_warren D.F_look_warren.kp D.b_look_warren (da_cons (de_var 0) da_nil))) (ds_cons (ds_expr (de_f0X (L2N.takes_of rfl rfl rfl rfl) ((GX_look_lookers).mono (by decide)) hr (by rfl) D.m_look_lookers D.F_look_lookers.kp D.b_look_lookers (da_cons (de_var 1) da_nil))) (ds_cons (ds_expr (de_f0X (L2N.takes_of rfl rfl rfl rfl) ((GX_look_lot).mono (by decide)) hr (by rfl) D.m_look_lot D.F_look_lot.kp D.b_look_lot (da_cons (de_var 0) (da_cons (de_var 2) da_nil)))) (ds_one ds_never))))
theorem fn_shows {P : Program} {w : World} {K : PySem.W.Frag} {mg : Str → Option Value} {base : Heap} (D : Md K mg) {φX_look_warren : F0} (GX_look_warren : FnOk P w K mg base (L2N.CX P w) 4 D.a_look_warren D.d_look_warren ["warren"] (spF0 K (EWx mg) false φX_look_warren)) {φX_look_lookers : F0} (GX_look_lookers : FnOk P w K mg base (L2N.CX P w) 2 D.a_look_lookers D.d_look_lookers ["lookers"] (spF0 K (EWx mg) false φX_look_lookers)) {φX_look_lot : F0} (GX_look_lot : FnOk P w K mg base (L2N.CX P w) 3 D.a_look_lot D.d_look_lot ["warren", "lot"] (spF0 K (EWx mg) false φX_look_lot)) {φ : F0} (h : ∀ ds k x, φ ds k x → ds.length = 4 ∧ t_shows φX_look_warren φX_look_lookers φX_look_lot (endF0 false k x) (envF0 ["warren", "lookers", "where", "thing", "lot"] ds)) : FnOk P w K mg base (L2N.CX P w) 5 D.a_shows D.d_shows ["warren", "lookers", "where", "thing"] (spF0 K (EWx mg) false φ) :=
  fn_F0N D.F_shows sc_shows rfl h fun cdv A outer s H E hr => der_shows D GX_look_warren GX_look_lookers GX_look_lot cdv A outer s H E hr

def t_to_shut (φX_look_warren : F0) (φX_look_lookers : F0) : DS := (sSeq (sExpr (dF0 φX_look_warren (daCons (dVar 0) daNil))) (sSeq (sExpr (dF0 φX_look_lookers (daCons (dVar 1) daNil))) (sSeq sNever (sSeq sNever sNever))))
theorem der_to_shut {P : Program} {w : World} {K : PySem.W.Frag} {mg : Str → Option Value} {base : Heap} (D : Md K mg) {φX_look_warren : F0} (GX_look_warren : FnOk P w K mg base (L2N.CX P w) 4 D.a_look_warren D.d_look_warren ["warren"] (spF0 K (EWx mg) false φX_look_warren)) {φX_look_lookers : F0} (GX_look_lookers : FnOk P w K mg base (L2N.CX P w) 2 D.a_look_lookers D.d_look_lookers ["lookers"] (spF0 K (EWx mg) false φX_look_lookers)) (cdv : Value) (A : Around) (outer : List PySem.Env) (s : Shared) (H : Hp) (E : XK)
    (hr : Room 4 (A.deeper (envOfC "to_shut" (defScope s_to_shut) s.heap.objs.size D.a_to_shut cdv))) : PSs (cxOf (L2N.CX P w) P w K mg base ["warren", "lookers", "found", "passage", "other"] "to_shut" (defScope s_to_shut) D.a_to_shut cdv A outer s H E) (defBody s_to_shut) (upS K (EWx mg E) false (t_to_shut φX_look_warren φX_look_lookers)) :=
  (ds_cons (ds_expr (de_f0X (L2N.takes_of rfl rfl rfl rfl) ((GX_look_warren).mono (by decide)) hr (by rfl) D.m_look_warren D.F_look_warren.kp D.b_look_warren (da_cons (de_var 0) da_nil))) (ds_cons (ds_expr (de_f0X (L2N.takes_of rfl rfl rfl rfl) ((GX_look_lookers).mono (by decide)) hr (by rfl) D.m_look_lookers D.F_look_lookers.kp D.b_look_lookers (da_cons (de_var 1) da_nil))) (ds_cons ds_never (ds_cons ds_never (ds_one ds_never)))))
theorem fn_to_shut {P : Program} {w : World} {K : PySem.W.Frag} {mg : Str → Option Value} {base : Heap} (D : Md K mg) {φX_look_warren : F0} (GX_look_warren : FnOk P w K mg base (L2N.CX P w) 4 D.a_look_warren D.d_look_warren ["warren"] (spF0 K (EWx mg) false φX_look_warren)) {φX_look_lookers : F0} (GX_look_lookers : FnOk P w K mg base (L2N.CX P w) 2 D.a_look_lookers D.d_look_lookers ["lookers"] (spF0 K (EWx mg) false φX_look_lookers)) {φ : F0} (h : ∀ ds k x, φ ds k x → ds.length = 2 ∧ t_to_shut φX_look_warren φX_look_lookers (endF0 false k x) (envF0 ["warren", "lookers", "found", "passage", "other"] ds)) : FnOk P w K mg base (L2N.CX P w) 5 D.a_to_shut D.d_to_shut ["warren", "lookers"] (spF0 K (EWx mg) false φ) :=
  fn_F0N D.F_to_shut sc_to_shut rfl h fun cdv A outer s H E hr => der_to_shut D GX_look_warren GX_look_lookers cdv A outer s H E hr

def t_is_plan (φ_good_lot : F0) : DS := (sSeq (sIf (dtOr (dtNot (dtTru (dIsi "list" (dVar 2)))) (dtB (dOp gtD (dCall lenF (daCons (dVar 2) daNil)) (dC (.int 1023))))) (sRet (dC (.bl false))) sNext) (sRet (dCall allF (daCons (dLc (diSeq (dVar 2)) (dgName 3) dtYes (dAndV (dF0 φ_good_lot (daCons (dVar 0) (daCons (dVar 3) daNil))) (dOp leD (dCall lenF (daCons (dVar 3) daNil)) (dVar 1))) [3]) daNil))))
theorem der_is_plan {P : Program} {w : World} {K : PySem.W.Frag} {mg : Str → Option Value} {base : Heap} (D : Md K mg) {φ_good_lot : F0} (G_good_lot : FnOk P w K mg base CX0 2 D.a_good_lot D.d_good_lot ["warren", "thing"] (spF0 K EW0 false φ_good_lot)) (cdv : Value) (A : Around) (outer : List PySem.Env) (s : Shared) (H : Hp) (E : XK)
    (hr : Room 2 (A.deeper (envOfC "is_plan" (defScope s_is_plan) s.heap.objs.size D.a_is_plan cdv))) : PSs (cxOf CX0 P w K mg base ["warren", "lookers", "thing", "lot"] "is_plan" (defScope s_is_plan) D.a_is_plan cdv A outer s H E).nox (defBody s_is_plan) (upS K W0 false (t_is_plan φ_good_lot)) :=
  (ds_cons (ds_if (dw_or (dt_not (dt_tru (de_isi (T := "list") (by decide) (by rfl) D.z_isinstance (pe_bltn (v := .ty "list") (by rfl) D.z_list (by decide +kernel) rfl) (de_var 2)))) (dw_or1 (dt_cmp op_gt b_gt (de_callB call_len_seq c_len (by rfl) D.z_len (by decide +kernel) (da_cons (de_var 2) da_nil)) (de_globI (by rfl) D.c_DAYS) (by rfl)))).pt (ds_one (ds_ret de_bl)) ds_nil) (ds_one (ds_ret (de_callB (cr_all (by rfl)) c_all (by rfl) D.z_all (by decide +kernel) (da_cons (de_F (de_lc (own := [("lot", 3)]) [3] rfl (by rfl) sc_is_plan.nd (di_seq (de_var 2)) (blkOk_by (N := ["warren", "lookers", "thing", "lot"]) (sc := defScope s_is_plan) (by decide +kernel)) (fun _ _ _ _ _ => (dg_name (vs := [3]) sc_is_plan.nd rfl (by first | exact Or.inl rfl | exact Or.inr rfl) (by decide))) (fun _ _ _ _ _ => dts_nil) (fun _ _ _ _ _ => (de_and (de_f0 ((G_good_lot).mono (by decide)) hr (by rfl) D.m_good_lot D.F_good_lot.kp D.b_good_lot (da_cons (de_var 0) (da_cons (de_var 3) da_nil))) (de_one (de_cmp op_le b_le (de_callB call_len_seq c_len (by rfl) D.z_len (by decide +kernel) (da_cons (de_var 3) da_nil)) (de_var 1) (by rfl))))))) da_nil)))))
theorem fn_is_plan {P : Program} {w : World} {K : PySem.W.Frag} {mg : Str → Option Value} {base : Heap} (D : Md K mg) {φ_good_lot : F0} (G_good_lot : FnOk P w K mg base CX0 2 D.a_good_lot D.d_good_lot ["warren", "thing"] (spF0 K EW0 false φ_good_lot)) {φ : F0} (h : ∀ ds k x, φ ds k x → ds.length = 3 ∧ t_is_plan φ_good_lot (endF0 false k x) (envF0 ["warren", "lookers", "thing", "lot"] ds)) : FnOk P w K mg base CX0 3 D.a_is_plan D.d_is_plan ["warren", "lookers", "thing"] (spF0 K EW0 false φ) :=
  fn_F0 D.F_is_plan sc_is_plan rfl h fun cdv A outer s H E hr => der_is_plan D G_good_lot cdv A outer s H E hr

def t_look_all (φX_look_warren : F0) (φX_look_lookers : F0) (φX_look_lot : F0) : DS := (sSeq (sExpr (dF0 φX_look_warren (daCons (dVar 0) daNil))) (sSeq (sExpr (dF0 φX_look_lookers (daCons (dVar 1) daNil))) (sExpr (dF0 φX_look_lot (daCons (dVar 0) (daCons (dVar 2) daNil))))))
theorem der_look_all {P : Program} {w : World} {K : PySem.W.Frag} {mg : Str → Option Value} {base : Heap} (D : Md K mg) {φX_look_warren : F0} (GX_look_warren : FnOk P w K mg base (L2N.CX P w) 4 D.a_look_warren D.d_look_warren ["warren"] (spF0 K (EWx mg) false φX_look_warren)) {φX_look_lookers : F0} (GX_look_lookers : FnOk P w K mg base (L2N.CX P w) 2 D.a_look_lookers D.d_look_lookers ["lookers"] (spF0 K (EWx mg) false φX_look_lookers)) {φX_look_lot : F0} (GX_look_lot : FnOk P w K mg base (L2N.CX P w) 3 D.a_look_lot D.d_look_lot ["warren", "lot"] (spF0 K (EWx mg) false φX_look_lot)) (cdv : Value) (A : Around) (outer : List PySem.Env) (s : Shared) (H : Hp) (E : XK)
    (hr : Room 4 (A.deeper (envOfC "look_all" (defScope s_look_all) s.heap.objs.size D.a_look_all cdv))) : PSs (cxOf (L2N.CX P w) P w K mg base ["warren", "lookers", "where"] "look_all" (defScope s_look_all) D.a_look_all cdv A outer s H E) (defBody s_look_all) (upS K (EWx mg E) false (t_look_all φX_look_warren φX_look_lookers φX_look_lot)) :=
  (ds_cons (ds_expr (de_f0X (L2N.takes_of rfl rfl rfl rfl) ((GX_look_warren).mono (by decide)) hr (by rfl) D.m_look_warren D.F_look_warren.kp D.b_look_warren (da_cons (de_var 0) da_nil))) (ds_cons (ds_expr (de_f0X (L2N.takes_of rfl rfl rfl rfl) ((GX_look_lookers).mono (by decide)) hr (by rfl) D.m_look_lookers D.F_look_lookers.kp D.b_look_lookers (da_cons (de_var 1) da_nil))) (ds_one (ds_expr (de_f0X (L2N.takes_of rfl rfl rfl rfl) ((GX_look_lot).mono (by decide)) hr (by rfl) D.m_look_lot D.F_look_lot.kp D.b_look_lot (da_cons (de_var 0) (da_cons (de_var 2) da_nil)))))))
theorem fn_look_all {P : Program} {w : World} {K : PySem.W.Frag} {mg : Str → Option Value} {base : Heap} (D : Md K mg) {φX_look_warren : F0} (GX_look_warren : FnOk P w K mg base (L2N.CX P w) 4 D.a_look_warren D.d_look_warren ["warren"] (spF0 K (EWx mg) false φX_look_warren)) {φX_look_lookers : F0} (GX_look_lookers : FnOk P w K mg base (L2N.CX P w) 2 D.a_look_lookers D.d_look_lookers ["lookers"] (spF0 K (EWx mg) false φX_look_lookers)) {φX_look_lot : F0} (GX_look_lot : FnOk P w K mg base (L2N.CX P w) 3 D.a_look_lot D.d_look_lot ["warren", "lot"] (spF0 K (EWx mg) false φX_look_lot)) {φ : F0} (h : ∀ ds k x, φ ds k x → ds.length = 3 ∧ t_look_all φX_look_warren φX_look_lookers φX_look_lot (endF0 false k x) (envF0 ["warren", "lookers", "where"] ds)) : FnOk P w K mg base (L2N.CX P w) 5 D.a_look_all D.d_look_all ["warren", "lookers", "where"] (spF0 K (EWx mg) false φ) :=
  fn_F0N D.F_look_all sc_look_all rfl h fun cdv A outer s H E hr => der_look_all D GX_look_warren GX_look_lookers GX_look_lot cdv A outer s H E hr

def t_surely (φX_look_all : F0) : DS := (sSeq (sExpr (dF0 φX_look_all (daCons (dVar 0) (daCons (dVar 1) (daCons (dVar 2) daNil))))) (sSeq sNever (sSeq sNever sNever)))
theorem der_surely {P : Program} {w : World} {K : PySem.W.Frag} {mg : Str → Option Value} {base : Heap} (D : Md K mg) {φX_look_all : F0} (GX_look_all : FnOk P w K mg base (L2N.CX P w) 5 D.a_look_all D.d_look_all ["warren", "lookers", "where"] (spF0 K (EWx mg) false φX_look_all)) (cdv : Value) (A : Around) (outer : List PySem.Env) (s : Shared) (H : Hp) (E : XK)
    (hr : Room 5 (A.deeper (envOfC "surely" (defScope s_surely) s.heap.objs.size D.a_surely cdv))) : PSs (cxOf (L2N.CX P w) P w K mg base ["warren", "lookers", "where", "thing", "lot"] "surely" (defScope s_surely) D.a_surely cdv A outer s H E) (defBody s_surely) (upS K (EWx mg E) false (t_surely φX_look_all)) :=
  (ds_cons (ds_expr (de_f0X (L2N.takes_of rfl rfl rfl rfl) ((GX_look_all).mono (by decide)) hr (by rfl) D.m_look_all D.F_look_all.kp D.b_look_all (da_cons (de_var 0) (da_cons (de_var 1) (da_cons (de_var 2) da_nil))))) (ds_cons ds_never (ds_cons ds_never (ds_one ds_never))))
theorem fn_surely {P : Program} {w : World} {K : PySem.W.Frag} {mg : Str → Option Value} {base : Heap} (D : Md K mg) {φX_look_all : F0} (GX_look_all : FnOk P w K mg base (L2N.CX P w) 5 D.a_look_all D.d_look_all ["warren", "lookers", "where"] (spF0 K (EWx mg) false φX_look_all)) {φ : F0} (h : ∀ ds k x, φ ds k x → ds.length = 4 ∧ t_surely φX_look_all (endF0 false k x) (envF0 ["warren", "lookers", "where", "thing", "lot"] ds)) : FnOk P w K mg base (L2N.CX P w) 6 D.a_surely D.d_surely ["warren", "lookers", "where", "thing"] (spF0 K (EWx mg) false φ) :=
  fn_F0N D.F_surely sc_surely rfl h fun cdv A outer s H E hr => der_surely D GX_look_all cdv A outer s H E hr

def t_fewest_days (φX_look_all : F0) : DS := (sSeq (sExpr (dF0 φX_look_all (daCons (dVar 0) (daCons (dVar 1) (daCons (dVar 2) daNil))))) sNever)
theorem der_fewest_days {P : Program} {w : World} {K : PySem.W.Frag} {mg : Str → Option Value} {base : Heap} (D : Md K mg) {φX_look_all : F0} (GX_look_all : FnOk P w K mg base (L2N.CX P w) 5 D.a_look_all D.d_look_all ["warren", "lookers", "where"] (spF0 K (EWx mg) false φX_look_all)) (cdv : Value) (A : Around) (outer : List PySem.Env) (s : Shared) (H : Hp) (E : XK)
    (hr : Room 5 (A.deeper (envOfC "fewest_days" (defScope s_fewest_days) s.heap.objs.size D.a_fewest_days cdv))) : PSs (cxOf (L2N.CX P w) P w K mg base ["warren", "lookers", "where"] "fewest_days" (defScope s_fewest_days) D.a_fewest_days cdv A outer s H E) (defBody s_fewest_days) (upS K (EWx mg E) false (t_fewest_days φX_look_all)) :=
  (ds_cons (ds_expr (de_f0X (L2N.takes_of rfl rfl rfl rfl) ((GX_look_all).mono (by decide)) hr (by rfl) D.m_look_all D.F_look_all.kp D.b_look_all (da_cons (de_var 0) (da_cons (de_var 1) (da_cons (de_var 2) da_nil))))) (ds_one ds_never))
theorem fn_fewest_days {P : Program} {w : World} {K : PySem.W.Frag} {mg : Str → Option Value} {base : Heap} (D : Md K mg) {φX_look_all : F0} (GX_look_all : FnOk P w K mg base (L2N.CX P w) 5 D.a_look_all D.d_look_all ["warren", "lookers", "where"] (spF0 K (EWx mg) false φX_look_all)) {φ : F0} (h : ∀ ds k x, φ ds k x → ds.length = 3 ∧ t_fewest_days φX_look_all (endF0 false k x) (envF0 ["warren", "lookers", "where"] ds)) : FnOk P w K mg base (L2N.CX P w) 6 D.a_fewest_days D.d_fewest_days ["warren", "lookers", "where"] (spF0 K (EWx mg) false φ) :=
  fn_F0N D.F_fewest_days sc_fewest_days rfl h fun cdv A outer s H E hr => der_fewest_days D GX_look_all cdv A outer s H E hr

def t_three_arms (φX_look_warren : F0) : DS := (sSeq (sExpr (dF0 φX_look_warren (daCons (dVar 0) daNil))) (sSeq sNever (sSeq sNever sNever)))
theorem der_three_arms {P : Program} {w : World} {K : PySem.W.Frag} {mg : Str → Option Value} {base : Heap} (D : Md K mg) {φX_look_warren : F0} (GX_look_warren : FnOk P w K mg base (L2N.CX P w) 4 D.a_look_warren D.d_look_warren ["warren"] (spF0 K (EWx mg) false φX_look_warren)) (cdv : Value) (A : Around) (outer : List PySem.Env) (s : Shared) (H : Hp) (E : XK)
    (hr : Room 4 (A.deeper (envOfC "three_arms" (defScope s_three_arms) s.heap.objs.size D.a_three_arms cdv))) : PSs (cxOf (L2N.CX P w) P w K mg base ["warren", "hole", "arms"] "three_arms" (defScope s_three_arms) D.a_three_arms cdv A outer s H E) (defBody s_three_arms) (upS K (EWx mg E) false (t_three_arms φX_look_warren)) :=
  (ds_cons (ds_expr (de_f0X (L2N.takes_of rfl rfl rfl rfl) ((GX_look_warren).mono (by decide)) hr (by rfl) D.m_look_warren D.F_look_warren.kp D.b_look_warren (da_cons (de_var 0) da_nil))) (ds_cons ds_never (ds_cons ds_never (ds_one ds_never))))
theorem fn_three_arms {P : Program} {w : World} {K : PySem.W.Frag} {mg : Str → Option Value} {base : Heap} (D : Md K mg) {φX_look_warren : F0} (GX_look_warren : FnOk P w K mg base (L2N.CX P w) 4 D.a_look_warren D.d_look_warren ["warren"] (spF0 K (EWx mg) false φX_look_warren)) {φ : F0} (h : ∀ ds k x, φ ds k x → ds.length = 1 ∧ t_three_arms φX_look_warren (endF0 false k x) (envF0 ["warren", "hole", "arms"] ds)) : FnOk P w K mg base (L2N.CX P w) 5 D.a_three_arms D.d_three_arms ["warren"] (spF0 K (EWx mg) false φ) :=
  fn_F0N D.F_three_arms sc_three_arms rfl h fun cdv A outer s H E hr => der_three_arms D GX_look_warren cdv A outer s H E hr

def t_look_plan (φX_look_warren : F0) (φX_look_lot : F0) (φ_is_plan : F0) : DS := (sSeq (sExpr (dF0 φX_look_warren (daCons (dVar 0) daNil))) (sSeq (sExpr (dF0 φX_look_lot (daCons (dVar 0) (daCons (dVar 1) daNil)))) (sIf (dtNot (dtTru (dF0n φ_is_plan (daCons (dVar 0) (daCons (dC (.int 4)) (daCons (dVar 2) daNil)))))) (sRaise "NoPlan") sNext)))
theorem der_look_plan {P : Program} {w : World} {K : PySem.W.Frag} {mg : Str → Option Value} {base : Heap} (D : Md K mg) {φX_look_warren : F0} (GX_look_warren : FnOk P w K mg base (L2N.CX P w) 4 D.a_look_warren D.d_look_warren ["warren"] (spF0 K (EWx mg) false φX_look_warren)) {φX_look_lot : F0} (GX_look_lot : FnOk P w K mg base (L2N.CX P w) 3 D.a_look_lot D.d_look_lot ["warren", "lot"] (spF0 K (EWx mg) false φX_look_lot)) {φ_is_plan : F0} (G_is_plan : FnOk P w K mg base CX0 3 D.a_is_plan D.d_is_plan ["warren", "lookers", "thing"] (spF0 K EW0 false φ_is_plan)) (cdv : Value) (A : Around) (outer : List PySem.Env) (s : Shared) (H : Hp) (E : XK)
    (hr : Room 4 (A.deeper (envOfC "look_plan" (defScope s_look_plan) s.heap.objs.size D.a_look_plan cdv))) : PSs (cxOf (L2N.CX P w) P w K mg base ["warren", "where", "plan"] "look_plan" (defScope s_look_plan) D.a_look_plan cdv A outer s H E) (defBody s_look_plan) (upS K (EWx mg E) false (t_look_plan φX_look_warren φX_look_lot φ_is_plan)) :=
  (ds_cons (ds_expr (de_f0X (L2N.takes_of rfl rfl rfl rfl) ((GX_look_warren).mono (by decide)) hr (by rfl) D.m_look_warren D.F_look_warren.kp D.b_look_warren (da_cons (de_var 0) da_nil))) (ds_cons (ds_expr (de_f0X (L2N.takes_of rfl rfl rfl rfl) ((GX_look_lot).mono (by decide)) hr (by rfl) D.m_look_lot D.F_look_lot.kp D.b_look_lot (da_cons (de_var 0) (da_cons (de_var 1) da_nil)))) (ds_one (ds_if (dt_not (dt_tru (de_f0n ((G_is_plan).mono (by decide)) hr (by rfl) D.m_is_plan D.F_is_plan.kp D.b_is_plan (da_cons (de_var 0) (da_cons (de_globI (by rfl) D.c_LOOKERS) (da_cons (de_var 2) da_nil)))))) (ds_one (ds_raiseN rfl (L2N.takes_of rfl rfl rfl rfl) D.x_NoPlan (by rfl))) ds_nil))))
theorem fn_look_plan {P : Program} {w : World} {K : PySem.W.Frag} {mg : Str → Option Value} {base : Heap} (D : Md K mg) {φX_look_warren : F0} (GX_look_warren : FnOk P w K mg base (L2N.CX P w) 4 D.a_look_warren D.d_look_warren ["warren"] (spF0 K (EWx mg) false φX_look_warren)) {φX_look_lot : F0} (GX_look_lot : FnOk P w K mg base (L2N.CX P w) 3 D.a_look_lot D.d_look_lot ["warren", "lot"] (spF0 K (EWx mg) false φX_look_lot)) {φ_is_plan : F0} (G_is_plan : FnOk P w K mg base CX0 3 D.a_is_plan D.d_is_plan ["warren", "lookers", "thing"] (spF0 K EW0 false φ_is_plan)) {φ : F0} (h : ∀ ds k x, φ ds k x → ds.length = 3 ∧ t_look_plan φX_look_warren φX_look_lot φ_is_plan (endF0 false k x) (envF0 ["warren", "where", "plan"] ds)) : FnOk P w K mg base (L2N.CX P w) 5 D.a_look_plan D.d_look_plan ["warren", "where", "plan"] (spF0 K (EWx mg) false φ) :=
  fn_F0N D.F_look_plan sc_look_plan rfl h fun cdv A outer s H E hr => der_look_plan D GX_look_warren GX_look_lot G_is_plan cdv A outer s H E hr

def t_walk (φX_look_plan : F0) : DS := (sSeq (sExpr (dF0 φX_look_plan (daCons (dVar 0) (daCons (dVar 1) (daCons (dVar 2) daNil))))) (sSeq sNever (sSeq sNever sNever)))
theorem der_walk {P : Program} {w : World} {K : PySem.W.Frag} {mg : Str → Option Value} {base : Heap} (D : Md K mg) {φX_look_plan : F0} (GX_look_plan : FnOk P w K mg base (L2N.CX P w) 5 D.a_look_plan D.d_look_plan ["warren", "where", "plan"] (spF0 K (EWx mg) false φX_look_plan)) (cdv : Value) (A : Around) (outer : List PySem.Env) (s : Shared) (H : Hp) (E : XK)
    (hr : Room 5 (A.deeper (envOfC "walk" (defScope s_walk) s.heap.objs.size D.a_walk cdv))) : PSs (cxOf (L2N.CX P w) P w K mg base ["warren", "where", "plan", "rows", "some", "found", "row", "good", "hole"] "walk" (defScope s_walk) D.a_walk cdv A outer s H E) (defBody s_walk) (upS K (EWx mg E) false (t_walk φX_look_plan)) :=
  (ds_cons (ds_expr (de_f0X (L2N.takes_of rfl rfl rfl rfl) ((GX_look_plan).mono (by decide)) hr (by rfl) D.m_look_plan D.F_look_plan.kp D.b_look_plan (da_cons (de_var 0) (da_cons (de_var 1) (da_cons (de_var 2) da_nil))))) (ds_cons ds_never (ds_cons ds_never (ds_one ds_never))))
theorem fn_walk {P : Program} {w : World} {K : PySem.W.Frag} {mg : Str → Option Value} {base : Heap} (D : Md K mg) {φX_look_plan : F0} (GX_look_plan : FnOk P w K mg base (L2N.CX P w) 5 D.a_look_plan D.d_look_plan ["warren", "where", "plan"] (spF0 K (EWx mg) false φX_look_plan)) {φ : F0} (h : ∀ ds k x, φ ds k x → ds.length = 3 ∧ t_walk φX_look_plan (endF0 false k x) (envF0 ["warren", "where", "plan", "rows", "some", "found", "row", "good", "hole"] ds)) : FnOk P w K mg base (L2N.CX P w) 6 D.a_walk D.d_walk ["warren", "where", "plan"] (spF0 K (EWx mg) false φ) :=
  fn_F0N D.F_walk sc_walk rfl h fun cdv A outer s H E hr => der_walk D GX_look_plan cdv A outer s H E hr

def t__law_bag  : DS := (sSeq (sAsg 2 (dC (.int 0))) (sSeq (sIf (dtB (dOp ltD (dVar 1) (dCall lenF (daCons (dVar 0) daNil)))) (sAsg 2 (dOp modD (dOp ixD (dVar 0) (dVar 1)) (dOp powD (dC (.int 10)) (dC (.int 60))))) sNext) (sSeq (sAsg 3 (dOp addA (dC (.int 1)) (dOp modD (dOp addA (dOp addA (dOp addA (dOp mulD (dOp modD (dVar 2) (dC (.int 2147483629))) (dC (.int 16807))) (dOp mulD (dOp mulD (dC (.int 40009)) (dVar 1)) (dVar 1))) (dOp mulD (dC (.int 7919)) (dVar 1))) (dC (.int 1009))) (dC (.int 2147483645))))) (sSeq (sIf (dtB (dOp ltD (dVar 2) (dOp powD (dC (.int 10)) (dC (.int 18))))) (sRet (dLst (daCons (dC (.int 0)) (daCons (dVar 3) daNil)))) sNext) (sRet (dLst (daCons (dVar 2) (daCons (dVar 3) daNil))))))))
theorem der__law_bag {P : Program} {w : World} {K : PySem.W.Frag} {mg : Str → Option Value} {base : Heap} (D : Md K mg)  (cdv : Value) (A : Around) (outer : List PySem.Env) (s : Shared) (H : Hp) (E : XK)
    (hr : Room 0 (A.deeper (envOfC "_law_bag" (defScope s__law_bag) s.heap.objs.size D.a__law_bag cdv))) : PSs (cxOf CX0 P w K mg base ["script", "k", "cell", "seed"] "_law_bag" (defScope s__law_bag) D.a__law_bag cdv A outer s H E).nox (defBody s__law_bag) (upS K W0 true (t__law_bag )) :=
  (ds_cons (ds_set sc__law_bag.nd rfl (by first | exact Or.inl rfl | exact Or.inr rfl) de_int) (ds_cons (ds_if (dt_cmp (op_ltA hr.u0) b_lt (de_var 1) (de_callB call_len_seq c_len (by rfl) D.z_len (by decide +kernel) (da_cons (de_var 0) da_nil)) (by rfl)) (ds_one (ds_set sc__law_bag.nd rfl (by first | exact Or.inl rfl | exact Or.inr rfl) (de_op op_mod b_mod (de_ix ix_seq b_ix (de_var 0) (de_var 1) (fun _ _ => rfl)) (de_op op_pow b_pow de_int de_int)))) ds_nil) (ds_cons (ds_set sc__law_bag.nd rfl (by first | exact Or.inl rfl | exact Or.inr rfl) (de_op op_addA b_addA de_int (de_op op_mod b_mod (de_op op_addA b_addA (de_op op_addA b_addA (de_op op_addA b_addA (de_op op_mul b_mul (de_op op_mod b_mod (de_var 2) de_int) de_int) (de_op op_mul b_mul (de_op op_mul b_mul de_int (de_var 1)) (de_var 1))) (de_op op_mul b_mul de_int (de_var 1))) de_int) de_int))) (ds_cons (ds_if (dt_cmp (op_ltA hr.u0) b_lt (de_var 2) (de_op op_pow b_pow de_int de_int) (by rfl)) (ds_one (ds_retF (de_lst (da_cons de_int (da_cons (de_var 3) da_nil))))) ds_nil) (ds_one (ds_retF (de_lst (da_cons (de_var 2) (da_cons (de_var 3) da_nil)))))))))
theorem fn__law_bag {P : Program} {w : World} {K : PySem.W.Frag} {mg : Str → Option Value} {base : Heap} (D : Md K mg)  {φ : F0} (h : ∀ ds k x, φ ds k x → ds.length = 2 ∧ t__law_bag  (endF0 true k x) (envF0 ["script", "k", "cell", "seed"] ds)) : FnOk P w K mg base CX0 1 D.a__law_bag D.d__law_bag ["script", "k"] (spF0 K EW0 true φ) :=
  fn_F0 D.F__law_bag sc__law_bag rfl h fun cdv A outer s H E hr => der__law_bag D  cdv A outer s H E hr

def t__law_take  : DS := (sSeq (sIf (dtPur (dtB (dOp gtD (dOp ixD (dVar 0) (dC (.int 0))) (dC (.int 0))))) (sSeq (sAsg 2 (dPur (dOp modD (dOp ixD (dVar 0) (dC (.int 0))) (dVar 1)))) (sSeq (sSetL 0 (dC (.int 0)) (dPur (dOp divD (dOp ixD (dVar 0) (dC (.int 0))) (dVar 1)))) (sRet (dVar 2)))) sNext) (sSeq (sSetL 0 (dC (.int 1)) (dPur (dOp modD (dOp mulD (dOp ixD (dVar 0) (dC (.int 1))) (dC (.int 48271))) (dC (.int 2147483647))))) (sRet (dPur (dOp modD (dOp divD (dOp modD (dOp mulD (dOp divD (dOp ixD (dVar 0) (dC (.int 1))) (dC (.int 13))) (dOp addA (dOp modD (dOp ixD (dVar 0) (dC (.int 1))) (dC (.int 32749))) (dC (.int 17)))) (dC (.int 2147483629))) (dC (.int 32))) (dVar 1))))))
theorem der__law_take {P : Program} {w : World} {K : PySem.W.Frag} {mg : Str → Option Value} {base : Heap} (D : Md K mg)  (cdv : Value) (A : Around) (outer : List PySem.Env) (s : Shared) (H : Hp) (E : XK)
    (hr : Room 0 (A.deeper (envOfC "_law_take" (defScope s__law_take) s.heap.objs.size D.a__law_take cdv))) : PSs (cxOf CX0 P w K mg base ["bag", "count", "found"] "_law_take" (defScope s__law_take) D.a__law_take cdv A outer s H E).nox (defBody s__law_take) (upS K W0 false (t__law_take )) :=
  (ds_cons (ds_if (dt_pur (dt_cmp op_gt b_gt (de_ix ix_seq b_ix (de_var 0) de_int (fun _ _ => rfl)) de_int (by rfl))) (ds_cons (ds_set sc__law_take.nd rfl (by first | exact Or.inl rfl | exact Or.inr rfl) (de_pur (de_op op_mod b_mod (de_ix ix_seq b_ix (de_var 0) de_int (fun _ _ => rfl)) (de_var 1)))) (ds_cons (ds_setL (ps_asg (de_pur (de_op op_fdiv b_div (de_ix ix_seq b_ix (de_var 0) de_int (fun _ _ => rfl)) (de_var 1))) (pg_sub (pv 0) de_int set_list))) (ds_one (ds_ret (de_var 2))))) ds_nil) (ds_cons (ds_setL (ps_asg (de_pur (de_op op_mod b_mod (de_op op_mul b_mul (de_ix ix_seq b_ix (de_var 0) de_int (fun _ _ => rfl)) de_int) de_int)) (pg_sub (pv 0) de_int set_list))) (ds_one (ds_ret (de_pur (de_op op_mod b_mod (de_op op_fdiv b_div (de_op op_mod b_mod (de_op op_mul b_mul (de_op op_fdiv b_div (de_ix ix_seq b_ix (de_var 0) de_int (fun _ _ => rfl)) de_int) (de_op op_addA b_addA (de_op op_mod b_mod (de_ix ix_seq b_ix (de_var 0) de_int (fun _ _ => rfl)) de_int) de_int)) de_int) de_int) (de_var 1)))))))
theorem fn__law_take {P : Program} {w : World} {K : PySem.W.Frag} {mg : Str → Option Value} {base : Heap} (D : Md K mg)  {φ : F1} (h : ∀ c ds k x, φ c ds k x → ds.length = 1 ∧ t__law_take  (endF1 k x) (envF1 ["bag", "count", "found"] c ds)) : FnOk P w K mg base CX0 1 D.a__law_take D.d__law_take ["bag", "count"] (spF1 K EW0 φ) :=
  fn_F1 D.F__law_take sc__law_take rfl h fun cdv A outer s H E hr => der__law_take D  cdv A outer s H E hr

def t__law_of (φ__law_take : F1) : DS := (sRet (dOp ixD (dVar 1) (dF1 φ__law_take 0 (daCons (dCall lenF (daCons (dVar 1) daNil)) daNil))))
theorem der__law_of {P : Program} {w : World} {K : PySem.W.Frag} {mg : Str → Option Value} {base : Heap} (D : Md K mg) {φ__law_take : F1} (G__law_take : FnOk P w K mg base CX0 1 D.a__law_take D.d__law_take ["bag", "count"] (spF1 K EW0 φ__law_take)) (cdv : Value) (A : Around) (outer : List PySem.Env) (s : Shared) (H : Hp) (E : XK)
    (hr : Room 1 (A.deeper (envOfC "_law_of" (defScope s__law_of) s.heap.objs.size D.a__law_of cdv))) : PSs (cxOf CX0 P w K mg base ["bag", "some"] "_law_of" (defScope s__law_of) D.a__law_of cdv A outer s H E).nox (defBody s__law_of) (upS K W0 false (t__law_of φ__law_take)) :=
  (ds_one (ds_ret (de_ix ix_seq b_ix (de_var 1) (de_f1 (i := 0) ((G__law_take).mono (by decide)) hr (by rfl) D.m__law_take D.F__law_take.kp D.b__law_take (pv 0) (da_cons (de_callB call_len_seq c_len (by rfl) D.z_len (by decide +kernel) (da_cons (de_var 1) da_nil)) da_nil)) (fun _ _ => rfl))))
theorem fn__law_of {P : Program} {w : World} {K : PySem.W.Frag} {mg : Str → Option Value} {base : Heap} (D : Md K mg) {φ__law_take : F1} (G__law_take : FnOk P w K mg base CX0 1 D.a__law_take D.d__law_take ["bag", "count"] (spF1 K EW0 φ__law_take)) {φ : F1} (h : ∀ c ds k x, φ c ds k x → ds.length = 1 ∧ t__law_of φ__law_take (endF1 k x) (envF1 ["bag", "some"] c ds)) : FnOk P w K mg base CX0 2 D.a__law_of D.d__law_of ["bag", "some"] (spF1 K EW0 φ) :=
  fn_F1 D.F__law_of sc__law_of rfl h fun cdv A outer s H E hr => der__law_of D G__law_take cdv A outer s H E hr

def t__law_warren (φ__law_take : F1) (φ__law_of : F1) : DS := (sSeq (sPar [false, true] [2, 3] (daCons (dOp addA (dC (.int 2)) (dF1 φ__law_take 0 (daCons (dOp subD (dVar 1) (dC (.int 1))) daNil))) (daCons (dC (.dT [])) daNil))) (sSeq (sFor (diRng2 (dC (.int 1)) (dVar 2)) (dgName 4) (sSeq (sAsg 5 (dF1 φ__law_of 0 (daCons (dLst (daCons (dOp subD (dVar 4) (dC (.int 1))) (daCons (dF1 φ__law_take 0 (daCons (dVar 4) daNil)) daNil))) daNil))) (sIf (dtB (dOp gtD (dF1 φ__law_take 0 (daCons (dC (.int 8)) daNil)) (dC (.int 0)))) (sPutD 3 (dTup (daCons (dVar 5) (daCons (dVar 4) daNil))) (dC (.bl true))) sNext))) (sSeq (sFor (diRng1 (dF1 φ__law_of 0 (daCons (dLst (daCons (dC (.int 0)) (daCons (dC (.int 0)) (daCons (dC (.int 0)) (daCons (dC (.int 1)) (daCons (dC (.int 2)) (daCons (dC (.int 5)) daNil))))))) daNil))) (dgName 6) (sSeq (sPar [false, false] [7, 8] (daCons (dF1 φ__law_take 0 (daCons (dVar 2) daNil)) (daCons (dF1 φ__law_take 0 (daCons (dVar 2) daNil)) daNil))) (sIf (dtB (dOp neOp (dVar 7) (dVar 8))) (sPutD 3 (dTup (daCons (dCall min2F (daCons (dVar 7) (daCons (dVar 8) daNil))) (daCons (dCall max2F (daCons (dVar 7) (daCons (dVar 8) daNil))) daNil))) (dC (.bl true))) sNext))) (sSeq (sFor (diRng1 (dVar 2)) (dgName 4) (sIf (dtPur (dtB (dOp eqOp (dLcK 3 (dgName 9) (dtB (dOp inOp (dVar 4) (dVar 9))) (dVar 9) [9]) (dLst daNil)))) (sSeq (sAsg 8 (dOp modD (dOp addA (dVar 4) (dC (.int 1))) (dVar 2))) (sPutD 3 (dTup (daCons (dCall min2F (daCons (dVar 4) (daCons (dVar 8) daNil))) (daCons (dCall max2F (daCons (dVar 4) (daCons (dVar 8) daNil))) daNil))) (dC (.bl true)))) sNext)) (sRet (dPur (dTup (daCons (dVar 2) (daCons (dCall tupF (daCons (dCall sortDF (daCons (dVar 3) daNil)) daNil)) daNil)))))))))
theorem der__law_warren {P : Program} {w : World} {K : PySem.W.Frag} {mg : Str → Option Value} {base : Heap} (D : Md K mg) {φ__law_take : F1} (G__law_take : FnOk P w K mg base CX0 1 D.a__law_take D.d__law_take ["bag", "count"] (spF1 K EW0 φ__law_take)) {φ__law_of : F1} (G__law_of : FnOk P w K mg base CX0 2 D.a__law_of D.d__law_of ["bag", "some"] (spF1 K EW0 φ__law_of)) (cdv : Value) (A : Around) (outer : List PySem.Env) (s : Shared) (H : Hp) (E : XK)
    (hr : Room 2 (A.deeper (envOfC "_law_warren" (defScope s__law_warren) s.heap.objs.size D.a__law_warren cdv))) : PSs (cxOf CX0 P w K mg base ["bag", "most", "holes", "found", "hole", "near", "turn", "one", "other", "pair"] "_law_warren" (defScope s__law_warren) D.a__law_warren cdv A outer s H E).nox (defBody s__law_warren) (upS K W0 false (t__law_warren φ__law_take φ__law_of)) :=
  (ds_cons (ds_par2 (ms := [false, true]) (i := 2) (j := 3) rfl (ps_par (by rfl) sc__law_warren.nd rfl rfl (by decide) rfl rfl (dm_frz (de_op op_addA b_addA de_int (de_f1 (i := 0) ((G__law_take).mono (by decide)) hr (by rfl) D.m__law_take D.F__law_take.kp D.b__law_take (pv 0) (da_cons (de_op op_sub b_sub (de_var 1) de_int) da_nil))) (dm_own de_newT dm_nil)) (by rfl))) (ds_cons (ds_for (vs := [4]) PassesOwn.never (by rfl) (di_rng2 (by rfl) D.z_range de_int (de_var 2)) (dg_name (vs := [4]) sc__law_warren.nd rfl (by first | exact Or.inl rfl | exact Or.inr rfl) (by decide)) (ds_cons (ds_set sc__law_warren.nd rfl (by first | exact Or.inl rfl | exact Or.inr rfl) (de_f1 (i := 0) ((G__law_of).mono (by decide)) hr (by rfl) D.m__law_of D.F__law_of.kp D.b__law_of (pv 0) (da_cons (de_F (de_lst (da_cons (de_op op_sub b_sub (de_var 4) de_int) (da_cons (de_f1 (i := 0) ((G__law_take).mono (by decide)) hr (by rfl) D.m__law_take D.F__law_take.kp D.b__law_take (pv 0) (da_cons (de_var 4) da_nil)) da_nil)))) da_nil))) (ds_one (ds_if (dt_cmp op_gt b_gt (de_f1 (i := 0) ((G__law_take).mono (by decide)) hr (by rfl) D.m__law_take D.F__law_take.kp D.b__law_take (pv 0) (da_cons de_int da_nil)) de_int (by rfl)) (ds_one (ds_putD (ps_dput hr.u1 (pv 3) (de_tup (da_cons (de_var 5) (da_cons (de_var 4) da_nil))) de_bl (by rfl)))) ds_nil)))) (ds_cons (ds_for (vs := [6]) PassesOwn.never (by rfl) (di_rng1 (by rfl) D.z_range (de_f1 (i := 0) ((G__law_of).mono (by decide)) hr (by rfl) D.m__law_of D.F__law_of.kp D.b__law_of (pv 0) (da_cons (de_F (de_lst (da_cons de_int (da_cons de_int (da_cons de_int (da_cons de_int (da_cons de_int (da_cons de_int da_nil)))))))) da_nil))) (dg_name (vs := [6]) sc__law_warren.nd rfl (by first | exact Or.inl rfl | exact Or.inr rfl) (by decide)) (ds_cons (ds_par2 (ms := [false, false]) (i := 7) (j := 8) rfl (ps_par (by rfl) sc__law_warren.nd rfl rfl (by decide) rfl rfl (dm_frz (de_f1 (i := 0) ((G__law_take).mono (by decide)) hr (by rfl) D.m__law_take D.F__law_take.kp D.b__law_take (pv 0) (da_cons (de_var 2) da_nil)) (dm_frz (de_f1 (i := 0) ((G__law_take).mono (by decide)) hr (by rfl) D.m__law_take D.F__law_take.kp D.b__law_take (pv 0) (da_cons (de_var 2) da_nil)) dm_nil)) (by rfl))) (ds_one (ds_if (dt_cmp (op_neD hr.u64) b_ne (de_var 7) (de_var 8) (by rfl)) (ds_one (ds_putD (ps_dput hr.u1 (pv 3) (de_tup (da_cons (de_callB (call_min2 (by rfl)) c_min2 (by rfl) D.z_min (by decide +kernel) (da_cons (de_var 7) (da_cons (de_var 8) da_nil))) (da_cons (de_callB (call_max2 (by rfl)) c_max2 (by rfl) D.z_max (by decide +kernel) (da_cons (de_var 7) (da_cons (de_var 8) da_nil))) da_nil))) de_bl (by rfl)))) ds_nil)))) (ds_cons (ds_for (vs := [4]) PassesOwn.never (by rfl) (di_rng1 (by rfl) D.z_range (de_var 2)) (dg_name (vs := [4]) sc__law_warren.nd rfl (by first | exact Or.inl rfl | exact Or.inr rfl) (by decide)) (ds_one (ds_if (dt_pur (dt_cmp (op_eqD hr.u64) b_eq (de_F (de_lcK (i := 3) (own := [("pair", 9)]) [9] rfl (by rfl) sc__law_warren.nd (pv 3) (blkOk_by (N := ["bag", "most", "holes", "found", "hole", "near", "turn", "one", "other", "pair"]) (sc := defScope s__law_warren) (by decide +kernel)) (fun _ _ _ _ _ => (dg_name (vs := [9]) sc__law_warren.nd rfl (by first | exact Or.inl rfl | exact Or.inr rfl) (by decide))) (fun _ _ _ _ _ => (dts_one (dt_cmp (op_inA hr.u65) b_in (de_var 4) (de_var 9) (by rfl)))) (fun _ _ _ _ _ => (de_var 9)))) (de_F (de_lst da_nil)) (by rfl))) (ds_cons (ds_set sc__law_warren.nd rfl (by first | exact Or.inl rfl | exact Or.inr rfl) (de_op op_mod b_mod (de_op op_addA b_addA (de_var 4) de_int) (de_var 2))) (ds_one (ds_putD (ps_dput hr.u1 (pv 3) (de_tup (da_cons (de_callB (call_min2 (by rfl)) c_min2 (by rfl) D.z_min (by decide +kernel) (da_cons (de_var 4) (da_cons (de_var 8) da_nil))) (da_cons (de_callB (call_max2 (by rfl)) c_max2 (by rfl) D.z_max (by decide +kernel) (da_cons (de_var 4) (da_cons (de_var 8) da_nil))) da_nil))) de_bl (by rfl))))) ds_nil))) (ds_one (ds_ret (de_pur (de_tup (da_cons (de_var 2) (da_cons (de_callT call_tuple_of c_tuple (by rfl) D.z_tuple (by decide +kernel) (da_cons (de_F (de_callBF (cr_sortDT (by rfl) hr.u65) c_sortDT (by rfl) D.z_sorted (by decide +kernel) (da_cons (de_var 3) da_nil))) da_nil)) da_nil))))))))))
theorem fn__law_warren {P : Program} {w : World} {K : PySem.W.Frag} {mg : Str → Option Value} {base : Heap} (D : Md K mg) {φ__law_take : F1} (G__law_take : FnOk P w K mg base CX0 1 D.a__law_take D.d__law_take ["bag", "count"] (spF1 K EW0 φ__law_take)) {φ__law_of : F1} (G__law_of : FnOk P w K mg base CX0 2 D.a__law_of D.d__law_of ["bag", "some"] (spF1 K EW0 φ__law_of)) {φ : F1} (h : ∀ c ds k x, φ c ds k x → ds.length = 1 ∧ t__law_warren φ__law_take φ__law_of (endF1 k x) (envF1 ["bag", "most", "holes", "found", "hole", "near", "turn", "one", "other", "pair"] c ds)) : FnOk P w K mg base CX0 3 D.a__law_warren D.d__law_warren ["bag", "most"] (spF1 K EW0 φ) :=
  fn_F1 D.F__law_warren sc__law_warren rfl h fun cdv A outer s H E hr => der__law_warren D G__law_take G__law_of cdv A outer s H E hr

def t__law_near  : DS := (sRet (dLc (diRng1 (dOp ixD (dVar 0) (dC (.int 0)))) (dgName 2) (dtAnd (dtB (dOp inOp (dTup (daCons (dCall min2F (daCons (dVar 2) (daCons (dVar 1) daNil))) (daCons (dCall max2F (daCons (dVar 2) (daCons (dVar 1) daNil))) daNil))) (dOp ixD (dVar 0) (dC (.int 1))))) (dtB (dOp neOp (dVar 2) (dVar 1)))) (dVar 2) [2]))
theorem der__law_near {P : Program} {w : World} {K : PySem.W.Frag} {mg : Str → Option Value} {base : Heap} (D : Md K mg)  (cdv : Value) (A : Around) (outer : List PySem.Env) (s : Shared) (H : Hp) (E : XK)
    (hr : Room 0 (A.deeper (envOfC "_law_near" (defScope s__law_near) s.heap.objs.size D.a__law_near cdv))) : PSs (cxOf CX0 P w K mg base ["warren", "hole", "one"] "_law_near" (defScope s__law_near) D.a__law_near cdv A outer s H E).nox (defBody s__law_near) (upS K W0 false (t__law_near )) :=
  (ds_one (ds_ret (de_F (de_lc (own := [("one", 2)]) [2] rfl (by rfl) sc__law_near.nd (di_rng1 (by rfl) D.z_range (de_ix ix_seq b_ix (de_var 0) de_int (fun _ _ => rfl))) (blkOk_by (N := ["warren", "hole", "one"]) (sc := defScope s__law_near) (by decide +kernel)) (fun _ _ _ _ _ => (dg_name (vs := [2]) sc__law_near.nd rfl (by first | exact Or.inl rfl | exact Or.inr rfl) (by decide))) (fun _ _ _ _ _ => (dts_one (dw_and (dt_cmp (op_inA hr.u65) b_in (de_tup (da_cons (de_callB (call_min2 (by rfl)) c_min2 (by rfl) D.z_min (by decide +kernel) (da_cons (de_var 2) (da_cons (de_var 1) da_nil))) (da_cons (de_callB (call_max2 (by rfl)) c_max2 (by rfl) D.z_max (by decide +kernel) (da_cons (de_var 2) (da_cons (de_var 1) da_nil))) da_nil))) (de_ix ix_seq b_ix (de_var 0) de_int (fun _ _ => rfl)) (by rfl)) (dw_and1 (dt_cmp (op_neD hr.u64) b_ne (de_var 2) (de_var 1) (by rfl)))).pt)) (fun _ _ _ _ _ => (de_var 2))))))
theorem fn__law_near {P : Program} {w : World} {K : PySem.W.Frag} {mg : Str → Option Value} {base : Heap} (D : Md K mg)  {φ : F0} (h : ∀ ds k x, φ ds k x → ds.length = 2 ∧ t__law_near  (endF0 false k x) (envF0 ["warren", "hole", "one"] ds)) : FnOk P w K mg base CX0 1 D.a__law_near D.d__law_near ["warren", "hole"] (spF0 K EW0 false φ) :=
  fn_F0 D.F__law_near sc__law_near rfl h fun cdv A outer s H E hr => der__law_near D  cdv A outer s H E hr

def t__law_later (φ__law_near : F0) : DS := (sSeq (sAsgO 3 (dC (.dI []))) (sSeq (sFor (diSeq (dVar 1)) (dgName 4) (sFor (diSeq (dF0 φ__law_near (daCons (dVar 0) (daCons (dVar 4) daNil)))) (dgName 5) (sIf (dtB (dOp notInOp (dVar 4) (dVar 2))) (sPutD 3 (dVar 5) (dC (.bl true))) sNext))) (sRet (dPur (dCall tupF (daCons (dCall sortIF (daCons (dVar 3) daNil)) daNil))))))
theorem der__law_later {P : Program} {w : World} {K : PySem.W.Frag} {mg : Str → Option Value} {base : Heap} (D : Md K mg) {φ__law_near : F0} (G__law_near : FnOk P w K mg base CX0 1 D.a__law_near D.d__law_near ["warren", "hole"] (spF0 K EW0 false φ__law_near)) (cdv : Value) (A : Around) (outer : List PySem.Env) (s : Shared) (H : Hp) (E : XK)
    (hr : Room 1 (A.deeper (envOfC "_law_later" (defScope s__law_later) s.heap.objs.size D.a__law_later cdv))) : PSs (cxOf CX0 P w K mg base ["warren", "where", "lot", "found", "hole", "one"] "_law_later" (defScope s__law_later) D.a__law_later cdv A outer s H E).nox (defBody s__law_later) (upS K W0 false (t__law_later φ__law_near)) :=
  (ds_cons (ds_setO sc__law_later.nd rfl (by first | exact Or.inl rfl | exact Or.inr rfl) de_newI) (ds_cons (ds_for (vs := [4]) PassesOwn.never (by rfl) (di_seq (de_var 1)) (dg_name (vs := [4]) sc__law_later.nd rfl (by first | exact Or.inl rfl | exact Or.inr rfl) (by decide)) (ds_one (ds_for (vs := [5]) PassesOwn.never (by rfl) (di_seq (de_f0 ((G__law_near).mono (by decide)) hr (by rfl) D.m__law_near D.F__law_near.kp D.b__law_near (da_cons (de_var 0) (da_cons (de_var 4) da_nil)))) (dg_name (vs := [5]) sc__law_later.nd rfl (by first | exact Or.inl rfl | exact Or.inr rfl) (by decide)) (ds_one (ds_if (dt_cmp (op_notInA hr.u65) b_notin (de_var 4) (de_var 2) (by rfl)) (ds_one (ds_putD (ps_dput hr.u1 (pv 3) (de_var 5) de_bl (by rfl)))) ds_nil))))) (ds_one (ds_ret (de_pur (de_callT call_tuple_of c_tuple (by rfl) D.z_tuple (by decide +kernel) (da_cons (de_F (de_callBF (call_sortedDI (by rfl)) c_sortI (by rfl) D.z_sorted (by decide +kernel) (da_cons (de_var 3) da_nil))) da_nil)))))))
theorem fn__law_later {P : Program} {w : World} {K : PySem.W.Frag} {mg : Str → Option Value} {base : Heap} (D : Md K mg) {φ__law_near : F0} (G__law_near : FnOk P w K mg base CX0 1 D.a__law_near D.d__law_near ["warren", "hole"] (spF0 K EW0 false φ__law_near)) {φ : F0} (h : ∀ ds k x, φ ds k x → ds.length = 3 ∧ t__law_later φ__law_near (endF0 false k x) (envF0 ["warren", "where", "lot", "found", "hole", "one"] ds)) : FnOk P w K mg base CX0 2 D.a__law_later D.d__law_later ["warren", "where", "lot"] (spF0 K EW0 false φ) :=
  fn_F0 D.F__law_later sc__law_later rfl h fun cdv A outer s H E hr => der__law_later D G__law_near cdv A outer s H E hr

def t__law_is_number  : DS := (sRet (dAndV (dIsi "int" (dVar 0)) (dAndV (dNotV (dIsi "bool" (dVar 0))) (dChain leD leD (dVar 1) (dVar 0) (dVar 2)))))
theorem der__law_is_number {P : Program} {w : World} {K : PySem.W.Frag} {mg : Str → Option Value} {base : Heap} (D : Md K mg)  (cdv : Value) (A : Around) (outer : List PySem.Env) (s : Shared) (H : Hp) (E : XK)
    (hr : Room 0 (A.deeper (envOfC "_law_is_number" (defScope s__law_is_number) s.heap.objs.size D.a__law_is_number cdv))) : PSs (cxOf CX0 P w K mg base ["thing", "low", "high"] "_law_is_number" (defScope s__law_is_number) D.a__law_is_number cdv A outer s H E).nox (defBody s__law_is_number) (upS K W0 false (t__law_is_number )) :=
  (ds_one (ds_ret (de_and (de_isi (T := "int") (by decide) (by rfl) D.z_isinstance (pe_bltn (v := .ty "int") (by rfl) D.z_int (by decide +kernel) rfl) (de_var 0)) (de_and (de_not (de_isi (T := "bool") (by decide) (by rfl) D.z_isinstance (pe_bltn (v := .ty "bool") (by rfl) D.z_bool (by decide +kernel) rfl) (de_var 0))) (de_one (de_chain op_le op_le b_le b_le (de_var 1) (de_var 0) (de_var 2)))))))
theorem fn__law_is_number {P : Program} {w : World} {K : PySem.W.Frag} {mg : Str → Option Value} {base : Heap} (D : Md K mg)  {φ : F0} (h : ∀ ds k x, φ ds k x → ds.length = 3 ∧ t__law_is_number  (endF0 false k x) (envF0 ["thing", "low", "high"] ds)) : FnOk P w K mg base CX0 1 D.a__law_is_number D.d__law_is_number ["thing", "low", "high"] (spF0 K EW0 false φ) :=
  fn_F0 D.F__law_is_number sc__law_is_number rfl h fun cdv A outer s H E hr => der__law_is_number D  cdv A outer s H E hr

def t__law_rises  : DS := (sRet (dOp eqOp (dLc (diRng2 (dC (.int 1)) (dCall lenF (daCons (dVar 0) daNil))) (dgName 1) (dtNot (dtB (dOp ltD (dOp ixD (dVar 0) (dOp subD (dVar 1) (dC (.int 1)))) (dOp ixD (dVar 0) (dVar 1))))) (dVar 1) [1]) (dLst daNil)))
theorem der__law_rises {P : Program} {w : World} {K : PySem.W.Frag} {mg : Str → Option Value} {base : Heap} (D : Md K mg)  (cdv : Value) (A : Around) (outer : List PySem.Env) (s : Shared) (H : Hp) (E : XK)
    (hr : Room 0 (A.deeper (envOfC "_law_rises" (defScope s__law_rises) s.heap.objs.size D.a__law_rises cdv))) : PSs (cxOf CX0 P w K mg base ["some", "at"] "_law_rises" (defScope s__law_rises) D.a__law_rises cdv A outer s H E).nox (defBody s__law_rises) (upS K W0 false (t__law_rises )) :=
  (ds_one (ds_ret (de_cmp (op_eqD hr.u64) b_eq (de_F (de_lc (own := [("at", 1)]) [1] rfl (by rfl) sc__law_rises.nd (di_rng2 (by rfl) D.z_range de_int (de_callB call_len_seq c_len (by rfl) D.z_len (by decide +kernel) (da_cons (de_var 0) da_nil))) (blkOk_by (N := ["some", "at"]) (sc := defScope s__law_rises) (by decide +kernel)) (fun _ _ _ _ _ => (dg_name (vs := [1]) sc__law_rises.nd rfl (by first | exact Or.inl rfl | exact Or.inr rfl) (by decide))) (fun _ _ _ _ _ => (dts_one (dt_not (dt_cmp (op_ltA hr.u0) b_lt (de_ix ix_seq b_ix (de_var 0) (de_op op_sub b_sub (de_var 1) de_int) (fun _ _ => rfl)) (de_ix ix_seq b_ix (de_var 0) (de_var 1) (fun _ _ => rfl)) (by rfl))))) (fun _ _ _ _ _ => (de_var 1)))) (de_F (de_lst da_nil)) (by rfl))))
theorem fn__law_rises {P : Program} {w : World} {K : PySem.W.Frag} {mg : Str → Option Value} {base : Heap} (D : Md K mg)  {φ : F0} (h : ∀ ds k x, φ ds k x → ds.length = 1 ∧ t__law_rises  (endF0 false k x) (envF0 ["some", "at"] ds)) : FnOk P w K mg base CX0 1 D.a__law_rises D.d__law_rises ["some"] (spF0 K EW0 false φ) :=
  fn_F0 D.F__law_rises sc__law_rises rfl h fun cdv A outer s H E hr => der__law_rises D  cdv A outer s H E hr

def t__law_is_warren (φ__law_is_number : F0) (φ__law_rises : F0) : DS := (sSeq (sIf (dtOr (dtNot (dtTru (dIsi "tuple" (dVar 0)))) (dtOr (dtB (dOp neOp (dCall lenF (daCons (dVar 0) daNil)) (dC (.int 2)))) (dtNot (dtTru (dF0 φ__law_is_number (daCons (dOp ixD (dVar 0) (dC (.int 0))) (daCons (dC (.int 2)) (daCons (dC (.int 10)) daNil)))))))) (sRet (dC (.bl false))) sNext) (sSeq (sIf (dtNot (dtTru (dIsi "tuple" (dOp ixD (dVar 0) (dC (.int 1)))))) (sRet (dC (.bl false))) sNext) (sSeq (sAsgO 1 (dC (.dI []))) (sSeq (sFor (diSeq (dOp ixD (dVar 0) (dC (.int 1)))) (dgName 2) (sSeq (sIf (dtOr (dtNot (dtTru (dIsi "tuple" (dVar 2)))) (dtB (dOp neOp (dCall lenF (daCons (dVar 2) daNil)) (dC (.int 2))))) (sRet (dC (.bl false))) sNext) (sSeq (sIf (dtOr (dtNot (dtTru (dF0 φ__law_is_number (daCons (dOp ixD (dVar 2) (dC (.int 0))) (daCons (dC (.int 0)) (daCons (dOp subD (dOp ixD (dVar 0) (dC (.int 0))) (dC (.int 1))) daNil)))))) (dtNot (dtTru (dF0 φ__law_is_number (daCons (dOp ixD (dVar 2) (dC (.int 1))) (daCons (dOp addA (dOp ixD (dVar 2) (dC (.int 0))) (dC (.int 1))) (daCons (dOp subD (dOp ixD (dVar 0) (dC (.int 0))) (dC (.int 1))) daNil))))))) (sRet (dC (.bl false))) sNext) (sSeq (sPutD 1 (dOp ixD (dVar 2) (dC (.int 0))) (dC (.bl true))) (sPutD 1 (dOp ixD (dVar 2) (dC (.int 1))) (dC (.bl true))))))) (sRet (dPur (dAndV (dF0 φ__law_rises (daCons (dOp ixD (dVar 0) (dC (.int 1))) daNil)) (dOp eqOp (dCall lenAF (daCons (dVar 1) daNil)) (dOp ixD (dVar 0) (dC (.int 0)))))))))))
theorem der__law_is_warren {P : Program} {w : World} {K : PySem.W.Frag} {mg : Str → Option Value} {base : Heap} (D : Md K mg) {φ__law_is_number : F0} (G__law_is_number : FnOk P w K mg base CX0 1 D.a__law_is_number D.d__law_is_number ["thing", "low", "high"] (spF0 K EW0 false φ__law_is_number)) {φ__law_rises : F0} (G__law_rises : FnOk P w K mg base CX0 1 D.a__law_rises D.d__law_rises ["some"] (spF0 K EW0 false φ__law_rises)) (cdv : Value) (A : Around) (outer : List PySem.Env) (s : Shared) (H : Hp) (E : XK)
    (hr : Room 1 (A.deeper (envOfC "_law_is_warren" (defScope s__law_is_warren) s.heap.objs.size D.a__law_is_warren cdv))) : PSs (cxOf CX0 P w K mg base ["thing", "met", "pair"] "_law_is_warren" (defScope s__law_is_warren) D.a__law_is_warren cdv A outer s H E).nox (defBody s__law_is_warren) (upS K W0 false (t__law_is_warren φ__law_is_number φ__law_rises)) :=
  (ds_cons (ds_if (dw_or (dt_not (dt_tru (de_isi (T := "tuple") (by decide) (by rfl) D.z_isinstance (pe_bltn (v := .ty "tuple") (by rfl) D.z_tuple (by decide +kernel) rfl) (de_var 0)))) (dw_or (dt_cmp (op_neD hr.u64) b_ne (de_callB call_len_seq c_len (by rfl) D.z_len (by decide +kernel) (da_cons (de_var 0) da_nil)) de_int (by rfl)) (dw_or1 (dt_not (dt_tru (de_f0 ((G__law_is_number).mono (by decide)) hr (by rfl) D.m__law_is_number D.F__law_is_number.kp D.b__law_is_number (da_cons (de_ix ix_seq b_ix (de_var 0) de_int (fun _ _ => rfl)) (da_cons de_int (da_cons de_int da_nil))))))))).pt (ds_one (ds_ret de_bl)) ds_nil) (ds_cons (ds_if (dt_not (dt_tru (de_isi (T := "tuple") (by decide) (by rfl) D.z_isinstance (pe_bltn (v := .ty "tuple") (by rfl) D.z_tuple (by decide +kernel) rfl) (de_ix ix_seq b_ix (de_var 0) de_int (fun _ _ => rfl))))) (ds_one (ds_ret de_bl)) ds_nil) (ds_cons (ds_setO sc__law_is_warren.nd rfl (by first | exact Or.inl rfl | exact Or.inr rfl) de_newI) (ds_cons (ds_for (vs := [2]) PassesOwn.never (by rfl) (di_seq (de_ix ix_seq b_ix (de_var 0) de_int (fun _ _ => rfl))) (dg_name (vs := [2]) sc__law_is_warren.nd rfl (by first | exact Or.inl rfl | exact Or.inr rfl) (by decide)) (ds_cons (ds_if (dw_or (dt_not (dt_tru (de_isi (T := "tuple") (by decide) (by rfl) D.z_isinstance (pe_bltn (v := .ty "tuple") (by rfl) D.z_tuple (by decide +kernel) rfl) (de_var 2)))) (dw_or1 (dt_cmp (op_neD hr.u64) b_ne (de_callB call_len_seq c_len (by rfl) D.z_len (by decide +kernel) (da_cons (de_var 2) da_nil)) de_int (by rfl)))).pt (ds_one (ds_ret de_bl)) ds_nil) (ds_cons (ds_if (dw_or (dt_not (dt_tru (de_f0 ((G__law_is_number).mono (by decide)) hr (by rfl) D.m__law_is_number D.F__law_is_number.kp D.b__law_is_number (da_cons (de_ix ix_seq b_ix (de_var 2) de_int (fun _ _ => rfl)) (da_cons de_int (da_cons (de_op op_sub b_sub (de_ix ix_seq b_ix (de_var 0) de_int (fun _ _ => rfl)) de_int) da_nil)))))) (dw_or1 (dt_not (dt_tru (de_f0 ((G__law_is_number).mono (by decide)) hr (by rfl) D.m__law_is_number D.F__law_is_number.kp D.b__law_is_number (da_cons (de_ix ix_seq b_ix (de_var 2) de_int (fun _ _ => rfl)) (da_cons (de_op op_addA b_addA (de_ix ix_seq b_ix (de_var 2) de_int (fun _ _ => rfl)) de_int) (da_cons (de_op op_sub b_sub (de_ix ix_seq b_ix (de_var 0) de_int (fun _ _ => rfl)) de_int) da_nil)))))))).pt (ds_one (ds_ret de_bl)) ds_nil) (ds_cons (ds_putD (ps_dput hr.u1 (pv 1) (de_ix ix_seq b_ix (de_var 2) de_int (fun _ _ => rfl)) de_bl (by rfl))) (ds_one (ds_putD (ps_dput hr.u1 (pv 1) (de_ix ix_seq b_ix (de_var 2) de_int (fun _ _ => rfl)) de_bl (by rfl)))))))) (ds_one (ds_ret (de_pur (de_and (de_f0 ((G__law_rises).mono (by decide)) hr (by rfl) D.m__law_rises D.F__law_rises.kp D.b__law_rises (da_cons (de_ix ix_seq b_ix (de_var 0) de_int (fun _ _ => rfl)) da_nil)) (de_one (de_cmp (op_eqD hr.u64) b_eq (de_callB call_len_any c_lenA (by rfl) D.z_len (by decide +kernel) (da_cons (de_var 1) da_nil)) (de_ix ix_seq b_ix (de_var 0) de_int (fun _ _ => rfl)) (by rfl)))))))))))
theorem fn__law_is_warren {P : Program} {w : World} {K : PySem.W.Frag} {mg : Str → Option Value} {base : Heap} (D : Md K mg) {φ__law_is_number : F0} (G__law_is_number : FnOk P w K mg base CX0 1 D.a__law_is_number D.d__law_is_number ["thing", "low", "high"] (spF0 K EW0 false φ__law_is_number)) {φ__law_rises : F0} (G__law_rises : FnOk P w K mg base CX0 1 D.a__law_rises D.d__law_rises ["some"] (spF0 K EW0 false φ__law_rises)) {φ : F0} (h : ∀ ds k x, φ ds k x → ds.length = 1 ∧ t__law_is_warren φ__law_is_number φ__law_rises (endF0 false k x) (envF0 ["thing", "met", "pair"] ds)) : FnOk P w K mg base CX0 2 D.a__law_is_warren D.d__law_is_warren ["thing"] (spF0 K EW0 false φ) :=
  fn_F0 D.F__law_is_warren sc__law_is_warren rfl h fun cdv A outer s H E hr => der__law_is_warren D G__law_is_number G__law_rises cdv A outer s H E hr

def t__law_is_lot (φ__law_is_number : F0) (φ__law_rises : F0) : DS := (sSeq (sIf (dtNot (dtTru (dIsi "tuple" (dVar 1)))) (sRet (dC (.bl false))) sNext) (sSeq (sIf (dtB (dOp neOp (dLc (diSeq (dVar 1)) (dgName 2) (dtNot (dtTru (dF0 φ__law_is_number (daCons (dVar 2) (daCons (dC (.int 0)) (daCons (dOp subD (dOp ixD (dVar 0) (dC (.int 0))) (dC (.int 1))) daNil)))))) (dVar 2) [2]) (dLst daNil))) (sRet (dC (.bl false))) sNext) (sRet (dF0 φ__law_rises (daCons (dVar 1) daNil)))))
theorem der__law_is_lot {P : Program} {w : World} {K : PySem.W.Frag} {mg : Str → Option Value} {base : Heap} (D : Md K mg) {φ__law_is_number : F0} (G__law_is_number : FnOk P w K mg base CX0 1 D.a__law_is_number D.d__law_is_number ["thing", "low", "high"] (spF0 K EW0 false φ__law_is_number)) {φ__law_rises : F0} (G__law_rises : FnOk P w K mg base CX0 1 D.a__law_rises D.d__law_rises ["some"] (spF0 K EW0 false φ__law_rises)) (cdv : Value) (A : Around) (outer : List PySem.Env) (s : Shared) (H : Hp) (E : XK)
    (hr : Room 1 (A.deeper (envOfC "_law_is_lot" (defScope s__law_is_lot) s.heap.objs.size D.a__law_is_lot cdv))) : PSs (cxOf CX0 P w K mg base ["warren", "thing", "hole"] "_law_is_lot" (defScope s__law_is_lot) D.a__law_is_lot cdv A outer s H E).nox (defBody s__law_is_lot) (upS K W0 false (t__law_is_lot φ__law_is_number φ__law_rises)) :=
  (ds_cons (ds_if (dt_not (dt_tru (de_isi (T := "tuple") (by decide) (by rfl) D.z_isinstance (pe_bltn (v := .ty "tuple") (by rfl) D.z_tuple (by decide +kernel) rfl) (de_var 1)))) (ds_one (ds_ret de_bl)) ds_nil) (ds_cons (ds_if (dt_cmp (op_neD hr.u64) b_ne (de_F (de_lc (own := [("hole", 2)]) [2] rfl (by rfl) sc__law_is_lot.nd (di_seq (de_var 1)) (blkOk_by (N := ["warren", "thing", "hole"]) (sc := defScope s__law_is_lot) (by decide +kernel)) (fun _ _ _ _ _ => (dg_name (vs := [2]) sc__law_is_lot.nd rfl (by first | exact Or.inl rfl | exact Or.inr rfl) (by decide))) (fun _ _ _ _ _ => (dts_one (dt_not (dt_tru (de_f0 ((G__law_is_number).mono (by decide)) hr (by rfl) D.m__law_is_number D.F__law_is_number.kp D.b__law_is_number (da_cons (de_var 2) (da_cons de_int (da_cons (de_op op_sub b_sub (de_ix ix_seq b_ix (de_var 0) de_int (fun _ _ => rfl)) de_int) da_nil)))))))) (fun _ _ _ _ _ => (de_var 2)))) (de_F (de_lst da_nil)) (by rfl)) (ds_one (ds_ret de_bl)) ds_nil) (ds_one (ds_ret (de_f0 ((G__law_rises).mono (by decide)) hr (by rfl) D.m__law_rises D.F__law_rises.kp D.b__law_rises (da_cons (de_var 1) da_nil))))))
theorem fn__law_is_lot {P : Program} {w : World} {K : PySem.W.Frag} {mg : Str → Option Value} {base : Heap} (D : Md K mg) {φ__law_is_number : F0} (G__law_is_number : FnOk P w K mg base CX0 1 D.a__law_is_number D.d__law_is_number ["thing", "low", "high"] (spF0 K EW0 false φ__law_is_number)) {φ__law_rises : F0} (G__law_rises : FnOk P w K mg base CX0 1 D.a__law_rises D.d__law_rises ["some"] (spF0 K EW0 false φ__law_rises)) {φ : F0} (h : ∀ ds k x, φ ds k x → ds.length = 2 ∧ t__law_is_lot φ__law_is_number φ__law_rises (endF0 false k x) (envF0 ["warren", "thing", "hole"] ds)) : FnOk P w K mg base CX0 2 D.a__law_is_lot D.d__law_is_lot ["warren", "thing"] (spF0 K EW0 false φ) :=
  fn_F0 D.F__law_is_lot sc__law_is_lot rfl h fun cdv A outer s H E hr => der__law_is_lot D G__law_is_number G__law_rises cdv A outer s H E hr

def t__law_bent (φ__law_take : F1) (φ__law_of : F1) (φ__law_bent : F1) : DS := (sSeq (sIf (dtOr (dtNot (dtTru (dIsi "tuple" (dVar 1)))) (dtOr (dtB (dOp eqOp (dVar 1) (dTup daNil))) (dtB (dOp eqOp (dF1 φ__law_take 0 (daCons (dC (.int 6)) daNil)) (dC (.int 0)))))) (sRet (dF1 φ__law_of 0 (daCons (dLst (daCons (dC (.int 0)) (daCons (dC (.int 1)) (daCons (dUn negD (dC (.int 1))) (daCons (dC (.int 2)) (daCons (dC (.int 9)) (daCons (dC (.int 10)) (daCons (dC (.int 11)) (daCons (dC (.bl true)) (daCons (dC .non) (daCons (dC (.str "a")) (daCons (dTup daNil) (daCons (dTup (daCons (dC (.int 0)) daNil)) (daCons (dLst (daCons (dC (.int 0)) daNil)) (daCons (dTup (daCons (dC (.int 0)) (daCons (dC (.int 1)) daNil))) (daCons (dTup (daCons (dC (.int 1)) (daCons (dC (.int 0)) daNil))) daNil)))))))))))))))) daNil))) sNext) (sSeq (sPar [false, false] [2, 3] (daCons (dF1 φ__law_take 0 (daCons (dCall lenF (daCons (dVar 1) daNil)) daNil)) (daCons (dF1 φ__law_take 0 (daCons (dC (.int 7)) daNil)) daNil))) (sSeq (sIf (dtB (dOp eqOp (dVar 3) (dC (.int 0)))) (sRet (dOp addA (dSl (dVar 1) dpN (dpS (dVar 2))) (dSl (dVar 1) (dpS (dOp addA (dVar 2) (dC (.int 1)))) dpN))) sNext) (sSeq (sIf (dtB (dOp eqOp (dVar 3) (dC (.int 1)))) (sRet (dOp addA (dSl (dVar 1) dpN (dpS (dOp addA (dVar 2) (dC (.int 1))))) (dSl (dVar 1) (dpS (dVar 2)) dpN))) sNext) (sSeq (sIf (dtB (dOp eqOp (dVar 3) (dC (.int 2)))) (sRet (dOp addA (dSl (dVar 1) (dpS (dVar 2)) dpN) (dSl (dVar 1) dpN (dpS (dVar 2))))) sNext) (sRet (dOp addA (dOp addA (dSl (dVar 1) dpN (dpS (dVar 2))) (dTup (daCons (dF1 φ__law_bent 0 (daCons (dOp ixD (dVar 1) (dVar 2)) daNil)) daNil))) (dSl (dVar 1) (dpS (dOp addA (dVar 2) (dC (.int 1)))) dpN))))))))
theorem der__law_bent {P : Program} {w : World} {K : PySem.W.Frag} {mg : Str → Option Value} {base : Heap} (D : Md K mg) {j : Nat} (hj : 2 ≤ j) {φ__law_take : F1} (G__law_take : FnOk P w K mg base CX0 1 D.a__law_take D.d__law_take ["bag", "count"] (spF1 K EW0 φ__law_take)) {φ__law_of : F1} (G__law_of : FnOk P w K mg base CX0 2 D.a__law_of D.d__law_of ["bag", "some"] (spF1 K EW0 φ__law_of)) {φ__law_bent : F1} (G__law_bent : FnOk P w K mg base CX0 j D.a__law_bent D.d__law_bent ["bag", "thing"] (spF1 K EW0 φ__law_bent)) (cdv : Value) (A : Around) (outer : List PySem.Env) (s : Shared) (H : Hp) (E : XK)
    (hr : Room j (A.deeper (envOfC "_law_bent" (defScope s__law_bent) s.heap.objs.size D.a__law_bent cdv))) : PSs (cxOf CX0 P w K mg base ["bag", "thing", "at", "way"] "_law_bent" (defScope s__law_bent) D.a__law_bent cdv A outer s H E).nox (defBody s__law_bent) (upS K W0 false (t__law_bent φ__law_take φ__law_of φ__law_bent)) :=
  (ds_cons (ds_if (dw_or (dt_not (dt_tru (de_isi (T := "tuple") (by decide) (by rfl) D.z_isinstance (pe_bltn (v := .ty "tuple") (by rfl) D.z_tuple (by decide +kernel) rfl) (de_var 1)))) (dw_or (dt_cmp (op_eqD hr.u64) b_eq (de_var 1) (de_tup da_nil) (by rfl)) (dw_or1 (dt_cmp (op_eqD hr.u64) b_eq (de_f1 (i := 0) ((G__law_take).mono (by omega)) hr (by rfl) D.m__law_take D.F__law_take.kp D.b__law_take (pv 0) (da_cons de_int da_nil)) de_int (by rfl))))).pt (ds_one (ds_ret (de_f1 (i := 0) ((G__law_of).mono (by omega)) hr (by rfl) D.m__law_of D.F__law_of.kp D.b__law_of (pv 0) (da_cons (de_F (de_lst (da_cons de_int (da_cons de_int (da_cons (de_un un_neg b_neg de_int) (da_cons de_int (da_cons de_int (da_cons de_int (da_cons de_int (da_cons de_bl (da_cons de_non (da_cons de_str (da_cons (de_tup da_nil) (da_cons (de_tup (da_cons de_int da_nil)) (da_cons (de_F (de_lst (da_cons de_int da_nil))) (da_cons (de_tup (da_cons de_int (da_cons de_int da_nil))) (da_cons (de_tup (da_cons de_int (da_cons de_int da_nil))) da_nil))))))))))))))))) da_nil)))) ds_nil) (ds_cons (ds_par2 (ms := [false, false]) (i := 2) (j := 3) rfl (ps_par (by rfl) sc__law_bent.nd rfl rfl (by decide) rfl rfl (dm_frz (de_f1 (i := 0) ((G__law_take).mono (by omega)) hr (by rfl) D.m__law_take D.F__law_take.kp D.b__law_take (pv 0) (da_cons (de_callB call_len_seq c_len (by rfl) D.z_len (by decide +kernel) (da_cons (de_var 1) da_nil)) da_nil)) (dm_frz (de_f1 (i := 0) ((G__law_take).mono (by omega)) hr (by rfl) D.m__law_take D.F__law_take.kp D.b__law_take (pv 0) (da_cons de_int da_nil)) dm_nil)) (by rfl))) (ds_cons (ds_if (dt_cmp (op_eqD hr.u64) b_eq (de_var 3) de_int (by rfl)) (ds_one (ds_ret (de_op op_addA b_addA (de_sl (de_var 1) dp_none (dp_some (de_var 2))) (de_sl (de_var 1) (dp_some (de_op op_addA b_addA (de_var 2) de_int)) dp_none)))) ds_nil) (ds_cons (ds_if (dt_cmp (op_eqD hr.u64) b_eq (de_var 3) de_int (by rfl)) (ds_one (ds_ret (de_op op_addA b_addA (de_sl (de_var 1) dp_none (dp_some (de_op op_addA b_addA (de_var 2) de_int))) (de_sl (de_var 1) (dp_some (de_var 2)) dp_none)))) ds_nil) (ds_cons (ds_if (dt_cmp (op_eqD hr.u64) b_eq (de_var 3) de_int (by rfl)) (ds_one (ds_ret (de_op op_addA b_addA (de_sl (de_var 1) (dp_some (de_var 2)) dp_none) (de_sl (de_var 1) dp_none (dp_some (de_var 2)))))) ds_nil) (ds_one (ds_ret (de_op op_addA b_addA (de_op op_addA b_addA (de_sl (de_var 1) dp_none (dp_some (de_var 2))) (de_tup (da_cons (de_f1 (i := 0) ((G__law_bent).mono (by omega)) hr (by rfl) D.m__law_bent D.F__law_bent.kp D.b__law_bent (pv 0) (da_cons (de_ix ix_seq b_ix (de_var 1) (de_var 2) (fun _ _ => rfl)) da_nil)) da_nil))) (de_sl (de_var 1) (dp_some (de_op op_addA b_addA (de_var 2) de_int)) dp_none)))))))))
theorem fn__law_bent {P : Program} {w : World} {K : PySem.W.Frag} {mg : Str → Option Value} {base : Heap} (D : Md K mg) {j : Nat} (hj : 2 ≤ j) {φ__law_take : F1} (G__law_take : FnOk P w K mg base CX0 1 D.a__law_take D.d__law_take ["bag", "count"] (spF1 K EW0 φ__law_take)) {φ__law_of : F1} (G__law_of : FnOk P w K mg base CX0 2 D.a__law_of D.d__law_of ["bag", "some"] (spF1 K EW0 φ__law_of)) {φ__law_bent : F1} (G__law_bent : FnOk P w K mg base CX0 j D.a__law_bent D.d__law_bent ["bag", "thing"] (spF1 K EW0 φ__law_bent)) {φ : F1} (h : ∀ c ds k x, φ c ds k x → ds.length = 1 ∧ t__law_bent φ__law_take φ__law_of φ__law_bent (endF1 k x) (envF1 ["bag", "thing", "at", "way"] c ds)) : FnOk P w K mg base CX0 (j + 1) D.a__law_bent D.d__law_bent ["bag", "thing"] (spF1 K EW0 φ) :=
  fn_F1 D.F__law_bent sc__law_bent rfl h fun cdv A outer s H E hr => der__law_bent D hj G__law_take G__law_of G__law_bent cdv A outer s H E hr

def t__law_kind (φX_behind : F0) (φX_fewest_days : F0) (φX_surely : F0) (φX_walk : F0) (φX_shows : F0) (φX_to_shut : F0) (φX_three_arms : F0) : DS := (sSeq (sAsg 4 (dC (.str "none"))) (sSeq (sTryKind (cIf (dtB (dOp eqOp (dVar 0) (dC (.int 0)))) (cCall φX_behind (daCons (dVar 1) (daCons (dVar 2) (daCons (dVar 3) daNil)))) (cIf (dtB (dOp eqOp (dVar 0) (dC (.int 1)))) (cCall φX_fewest_days (daCons (dVar 1) (daCons (dVar 2) (daCons (dVar 3) daNil)))) (cIf (dtB (dOp eqOp (dVar 0) (dC (.int 2)))) (cCall φX_surely (daCons (dVar 1) (daCons (dVar 2) (daCons (dVar 3) (daCons (dC .non) daNil))))) (cIf (dtB (dOp eqOp (dVar 0) (dC (.int 3)))) (cCall φX_walk (daCons (dVar 1) (daCons (dVar 2) (daCons (dVar 3) daNil)))) (cIf (dtB (dOp eqOp (dVar 0) (dC (.int 4)))) (cCall φX_shows (daCons (dVar 1) (daCons (dVar 2) (daCons (dVar 3) (daCons (dC .non) daNil))))) (cIf (dtB (dOp eqOp (dVar 0) (dC (.int 5)))) (cCall φX_to_shut (daCons (dVar 1) (daCons (dVar 2) daNil))) (cCall φX_three_arms (daCons (dVar 1) daNil))))))))) (sRet (dVar 4))))
theorem der__law_kind {P : Program} {w : World} {K : PySem.W.Frag} {mg : Str → Option Value} {base : Heap} (D : Md K mg) {φX_behind : F0} (GX_behind : FnOk P w K mg base (L2N.CX P w) 5 D.a_behind D.d_behind ["warren", "where", "lot"] (spF0 K (EWx mg) false φX_behind)) {φX_fewest_days : F0} (GX_fewest_days : FnOk P w K mg base (L2N.CX P w) 6 D.a_fewest_days D.d_fewest_days ["warren", "lookers", "where"] (spF0 K (EWx mg) false φX_fewest_days)) {φX_surely : F0} (GX_surely : FnOk P w K mg base (L2N.CX P w) 6 D.a_surely D.d_surely ["warren", "lookers", "where", "thing"] (spF0 K (EWx mg) false φX_surely)) {φX_walk : F0} (GX_walk : FnOk P w K mg base (L2N.CX P w) 6 D.a_walk D.d_walk ["warren", "where", "plan"] (spF0 K (EWx mg) false φX_walk)) {φX_shows : F0} (GX_shows : FnOk P w K mg base (L2N.CX P w) 5 D.a_shows D.d_shows ["warren", "lookers", "where", "thing"] (spF0 K (EWx mg) false φX_shows)) {φX_to_shut : F0} (GX_to_shut : FnOk P w K mg base (L2N.CX P w) 5 D.a_to_shut D.d_to_shut ["warren", "lookers"] (spF0 K (EWx mg) false φX_to_shut)) {φX_three_arms : F0} (GX_three_arms : FnOk P w K mg base (L2N.CX P w) 5 D.a_three_arms D.d_three_arms ["warren"] (spF0 K (EWx mg) false φX_three_arms)) (cdv : Value) (A : Around) (outer : List PySem.Env) (s : Shared) (H : Hp) (E : XK)
    (hr : Room 6 (A.deeper (envOfC "_law_kind" (defScope s__law_kind) s.heap.objs.size D.a__law_kind cdv))) : PSs (cxOf CX0 P w K mg base ["way", "one", "two", "three", "kin", "e", "some", "words", "word", "is_it"] "_law_kind" (defScope s__law_kind) D.a__law_kind cdv A outer s H E).nox (defBody s__law_kind) (upS K W0 false (t__law_kind φX_behind φX_fewest_days φX_surely φX_walk φX_shows φX_to_shut φX_three_arms)) :=
  (ds_cons (ds_set sc__law_kind.nd rfl (by first | exact Or.inl rfl | exact Or.inr rfl) de_str) (ds_cons (ds_tryKind rfl rfl ⟨rfl, (fun x hx => by simp only [List.mem_cons, List.not_mem_nil, or_false] at hx; rcases hx with rfl | rfl | rfl | rfl <;> rfl), (fun x hx => by simp only [List.mem_cons, List.not_mem_nil, or_false] at hx; rcases hx with rfl | rfl | rfl | rfl | rfl | rfl | rfl <;> rfl), D.z_isinstance, D.z_zip, (blkOk_by (N := ["way", "one", "two", "three", "kin", "e", "some", "words", "word", "is_it"]) (sc := defScope s__law_kind) (by decide +kernel))⟩ D.k5 (by rfl) D.gF D.kf rfl (fun W pn xe tk => (dc_if (dt_cmp (op_eqD hr.u64) b_eq (de_var 0) de_int (by rfl)) (dc_call tk ((GX_behind).mono (by decide)) hr (by rfl) D.m_behind D.F_behind.kp D.b_behind (da_cons (de_var 1) (da_cons (de_var 2) (da_cons (de_var 3) da_nil)))) (dc_if (dt_cmp (op_eqD hr.u64) b_eq (de_var 0) de_int (by rfl)) (dc_call tk ((GX_fewest_days).mono (by decide)) hr (by rfl) D.m_fewest_days D.F_fewest_days.kp D.b_fewest_days (da_cons (de_var 1) (da_cons (de_var 2) (da_cons (de_var 3) da_nil)))) (dc_if (dt_cmp (op_eqD hr.u64) b_eq (de_var 0) de_int (by rfl)) (dc_call tk ((GX_surely).mono (by decide)) hr (by rfl) D.m_surely D.F_surely.kp D.b_surely (da_cons (de_var 1) (da_cons (de_var 2) (da_cons (de_var 3) (da_cons de_non da_nil))))) (dc_if (dt_cmp (op_eqD hr.u64) b_eq (de_var 0) de_int (by rfl)) (dc_call tk ((GX_walk).mono (by decide)) hr (by rfl) D.m_walk D.F_walk.kp D.b_walk (da_cons (de_var 1) (da_cons (de_var 2) (da_cons (de_var 3) da_nil)))) (dc_if (dt_cmp (op_eqD hr.u64) b_eq (de_var 0) de_int (by rfl)) (dc_call tk ((GX_shows).mono (by decide)) hr (by rfl) D.m_shows D.F_shows.kp D.b_shows (da_cons (de_var 1) (da_cons (de_var 2) (da_cons (de_var 3) (da_cons de_non da_nil))))) (dc_if (dt_cmp (op_eqD hr.u64) b_eq (de_var 0) de_int (by rfl)) (dc_call tk ((GX_to_shut).mono (by decide)) hr (by rfl) D.m_to_shut D.F_to_shut.kp D.b_to_shut (da_cons (de_var 1) (da_cons (de_var 2) da_nil))) (dc_call tk ((GX_three_arms).mono (by decide)) hr (by rfl) D.m_three_arms D.F_three_arms.kp D.b_three_arms (da_cons (de_var 1) da_nil)))))))))) (ds_one (ds_ret (de_var 4)))))
theorem fn__law_kind {P : Program} {w : World} {K : PySem.W.Frag} {mg : Str → Option Value} {base : Heap} (D : Md K mg) {φX_behind : F0} (GX_behind : FnOk P w K mg base (L2N.CX P w) 5 D.a_behind D.d_behind ["warren", "where", "lot"] (spF0 K (EWx mg) false φX_behind)) {φX_fewest_days : F0} (GX_fewest_days : FnOk P w K mg base (L2N.CX P w) 6 D.a_fewest_days D.d_fewest_days ["warren", "lookers", "where"] (spF0 K (EWx mg) false φX_fewest_days)) {φX_surely : F0} (GX_surely : FnOk P w K mg base (L2N.CX P w) 6 D.a_surely D.d_surely ["warren", "lookers", "where", "thing"] (spF0 K (EWx mg) false φX_surely)) {φX_walk : F0} (GX_walk : FnOk P w K mg base (L2N.CX P w) 6 D.a_walk D.d_walk ["warren", "where", "plan"] (spF0 K (EWx mg) false φX_walk)) {φX_shows : F0} (GX_shows : FnOk P w K mg base (L2N.CX P w) 5 D.a_shows D.d_shows ["warren", "lookers", "where", "thing"] (spF0 K (EWx mg) false φX_shows)) {φX_to_shut : F0} (GX_to_shut : FnOk P w K mg base (L2N.CX P w) 5 D.a_to_shut D.d_to_shut ["warren", "lookers"] (spF0 K (EWx mg) false φX_to_shut)) {φX_three_arms : F0} (GX_three_arms : FnOk P w K mg base (L2N.CX P w) 5 D.a_three_arms D.d_three_arms ["warren"] (spF0 K (EWx mg) false φX_three_arms)) {φ : F0} (h : ∀ ds k x, φ ds k x → ds.length = 4 ∧ t__law_kind φX_behind φX_fewest_days φX_surely φX_walk φX_shows φX_to_shut φX_three_arms (endF0 false k x) (envF0 ["way", "one", "two", "three", "kin", "e", "some", "words", "word", "is_it"] ds)) : FnOk P w K mg base CX0 7 D.a__law_kind D.d__law_kind ["way", "one", "two", "three"] (spF0 K EW0 false φ) :=
  fn_F0 D.F__law_kind sc__law_kind rfl h fun cdv A outer s H E hr => der__law_kind D GX_behind GX_fewest_days GX_surely GX_walk GX_shows GX_to_shut GX_three_arms cdv A outer s H E hr

def t__law_doors_right (φ__law_kind : F0) : DS := (sSeq (sAsg 1 (dOp ixD (dVar 0) (dC (.int 0)))) (sSeq (sFor (diSeq (dLst (daCons (dC .non) (daCons (dCall lstF (daCons (dVar 0) daNil)) (daCons (dTup (daCons (dVar 1) (daCons (dTup daNil) daNil))) (daCons (dTup (daCons (dC (.int 11)) (daCons (dOp ixD (dVar 0) (dC (.int 1))) daNil))) (daCons (dTup (daCons (dVar 1) (daCons (dOp addA (dOp ixD (dVar 0) (dC (.int 1))) (dOp repT (dTup (daCons (dTup (daCons (dC (.int 0)) (daCons (dC (.int 1)) daNil))) daNil)) (dC (.int 2)))) daNil))) daNil))))))) (dgName 2) (sIf (dtB (dOp neOp (dLc (diRng1 (dC (.int 7))) (dgName 4) dtYes (dF0 φ__law_kind (daCons (dVar 4) (daCons (dVar 2) (daCons (dC .non) (daCons (dC .non) daNil))))) [4]) (dOp repL (dLst (daCons (dC (.str "NoWarren")) daNil)) (dC (.int 7))))) (sRet (dC (.bl false))) sNext)) (sSeq (sFor (diSeq (dLst (daCons (dC (.int 0)) (daCons (dC (.int 5)) (daCons (dC .non) (daCons (dC (.bl true)) daNil)))))) (dgName 2) (sIf (dtB (dOp neOp (dLc (diSeq (dTup (daCons (dC (.int 1)) (daCons (dC (.int 2)) (daCons (dC (.int 4)) (daCons (dC (.int 5)) daNil)))))) (dgName 4) dtYes (dF0 φ__law_kind (daCons (dVar 4) (daCons (dVar 0) (daCons (dVar 2) (daCons (dC .non) daNil))))) [4]) (dOp repL (dLst (daCons (dC (.str "NoLookers")) daNil)) (dC (.int 4))))) (sRet (dC (.bl false))) sNext)) (sSeq (sFor (diSeq (dLst (daCons (dC .non) (daCons (dLst (daCons (dC (.int 0)) daNil)) (daCons (dTup (daCons (dVar 1) daNil)) (daCons (dTup (daCons (dUn negD (dC (.int 1))) daNil)) (daCons (dTup (daCons (dC (.int 1)) (daCons (dC (.int 0)) daNil))) (daCons (dTup (daCons (dC (.int 0)) (daCons (dC (.int 0)) daNil))) (daCons (dTup (daCons (dC (.bl true)) daNil)) daNil))))))))) (dgName 2) (sSeq (sIf (dtB (dOp neOp (dLc (diSeq (dTup (daCons (dC (.int 0)) (daCons (dC (.int 3)) daNil)))) (dgName 4) dtYes (dF0 φ__law_kind (daCons (dVar 4) (daCons (dVar 0) (daCons (dVar 2) (daCons (dC .non) daNil))))) [4]) (dOp repL (dLst (daCons (dC (.str "NoLot")) daNil)) (dC (.int 2))))) (sRet (dC (.bl false))) sNext) (sSeq (sIf (dtB (dOp neOp (dLc (diSeq (dTup (daCons (dC (.int 1)) (daCons (dC (.int 2)) (daCons (dC (.int 4)) daNil))))) (dgName 4) dtYes (dF0 φ__law_kind (daCons (dVar 4) (daCons (dVar 0) (daCons (dC (.int 1)) (daCons (dVar 2) daNil))))) [4]) (dOp repL (dLst (daCons (dC (.str "NoLot")) daNil)) (dC (.int 3))))) (sRet (dC (.bl false))) sNext) (sIf (dtB (dOp neOp (dF0 φ__law_kind (daCons (dC (.int 0)) (daCons (dVar 0) (daCons (dTup daNil) (daCons (dVar 2) daNil))))) (dC (.str "NoLot")))) (sRet (dC (.bl false))) sNext)))) (sSeq (sAsg 3 (dLst (daCons (dC .non) (daCons (dTup daNil) (daCons (dLst (daCons (dC .non) daNil)) (daCons (dLst (daCons (dTup (daCons (dC (.int 0)) (daCons (dC (.int 0)) daNil))) daNil)) (daCons (dOp repL (dLst (daCons (dTup daNil) daNil)) (dC (.int 1024))) (daCons (dLst (daCons (dLst (daCons (dC (.int 0)) daNil)) daNil)) daNil)))))))) (sRet (dOp eqOp (dLc (diSeq (dVar 3)) (dgName 2) dtYes (dF0 φ__law_kind (daCons (dC (.int 3)) (daCons (dVar 0) (daCons (dTup (daCons (dC (.int 0)) daNil)) (daCons (dVar 2) daNil))))) [2]) (dOp repL (dLst (daCons (dC (.str "NoPlan")) daNil)) (dC (.int 6))))))))))
theorem der__law_doors_right {P : Program} {w : World} {K : PySem.W.Frag} {mg : Str → Option Value} {base : Heap} (D : Md K mg) {φ__law_kind : F0} (G__law_kind : FnOk P w K mg base CX0 7 D.a__law_kind D.d__law_kind ["way", "one", "two", "three"] (spF0 K EW0 false φ__law_kind)) (cdv : Value) (A : Around) (outer : List PySem.Env) (s : Shared) (H : Hp) (E : XK)
    (hr : Room 7 (A.deeper (envOfC "_law_doors_right" (defScope s__law_doors_right) s.heap.objs.size D.a__law_doors_right cdv))) : PSs (cxOf CX0 P w K mg base ["warren", "holes", "bad", "plans", "way"] "_law_doors_right" (defScope s__law_doors_right) D.a__law_doors_right cdv A outer s H E).nox (defBody s__law_doors_right) (upS K W0 false (t__law_doors_right φ__law_kind)) :=
  (ds_cons (ds_set sc__law_doors_right.nd rfl (by first | exact Or.inl rfl | exact Or.inr rfl) (de_ix ix_seq b_ix (de_var 0) de_int (fun _ _ => rfl))) (ds_cons (ds_for (vs := [2]) PassesOwn.never (by rfl) (di_seq (de_F (de_lst (da_cons de_non (da_cons (de_F (de_callTF call_list_of c_list (by rfl) D.z_list (by decide +kernel) (da_cons (de_var 0) da_nil))) (da_cons (de_tup (da_cons (de_var 1) (da_cons (de_tup da_nil) da_nil))) (da_cons (de_tup (da_cons de_int (da_cons (de_ix ix_seq b_ix (de_var 0) de_int (fun _ _ => rfl)) da_nil))) (da_cons (de_tup (da_cons (de_var 1) (da_cons (de_op op_addA b_addA (de_ix ix_seq b_ix (de_var 0) de_int (fun _ _ => rfl)) (de_op op_repT b_repT (de_tup (da_cons (de_tup (da_cons de_int (da_cons de_int da_nil))) da_nil)) de_int)) da_nil))) da_nil)))))))) (dg_name (vs := [2]) sc__law_doors_right.nd rfl (by first | exact Or.inl rfl | exact Or.inr rfl) (by decide)) (ds_one (ds_if (dt_cmp (op_neD hr.u64) b_ne (de_F (de_lc (own := [("way", 4)]) [4] rfl (by rfl) sc__law_doors_right.nd (di_rng1 (by rfl) D.z_range de_int) (blkOk_by (N := ["warren", "holes", "bad", "plans", "way"]) (sc := defScope s__law_doors_right) (by decide +kernel)) (fun _ _ _ _ _ => (dg_name (vs := [4]) sc__law_doors_right.nd rfl (by first | exact Or.inl rfl | exact Or.inr rfl) (by decide))) (fun _ _ _ _ _ => dts_nil) (fun _ _ _ _ _ => (de_f0 ((G__law_kind).mono (by decide)) hr (by rfl) D.m__law_kind D.F__law_kind.kp D.b__law_kind (da_cons (de_var 4) (da_cons (de_var 2) (da_cons de_non (da_cons de_non da_nil)))))))) (de_F (de_opF op_rep b_repL (de_F (de_lst (da_cons de_str da_nil))) de_int)) (by rfl)) (ds_one (ds_ret de_bl)) ds_nil))) (ds_cons (ds_for (vs := [2]) PassesOwn.never (by rfl) (di_seq (de_F (de_lst (da_cons de_int (da_cons de_int (da_cons de_non (da_cons de_bl da_nil))))))) (dg_name (vs := [2]) sc__law_doors_right.nd rfl (by first | exact Or.inl rfl | exact Or.inr rfl) (by decide)) (ds_one (ds_if (dt_cmp (op_neD hr.u64) b_ne (de_F (de_lc (own := [("way", 4)]) [4] rfl (by rfl) sc__law_doors_right.nd (di_seq (de_tup (da_cons de_int (da_cons de_int (da_cons de_int (da_cons de_int da_nil)))))) (blkOk_by (N := ["warren", "holes", "bad", "plans", "way"]) (sc := defScope s__law_doors_right) (by decide +kernel)) (fun _ _ _ _ _ => (dg_name (vs := [4]) sc__law_doors_right.nd rfl (by first | exact Or.inl rfl | exact Or.inr rfl) (by decide))) (fun _ _ _ _ _ => dts_nil) (fun _ _ _ _ _ => (de_f0 ((G__law_kind).mono (by decide)) hr (by rfl) D.m__law_kind D.F__law_kind.kp D.b__law_kind (da_cons (de_var 4) (da_cons (de_var 0) (da_cons (de_var 2) (da_cons de_non da_nil)))))))) (de_F (de_opF op_rep b_repL (de_F (de_lst (da_cons de_str da_nil))) de_int)) (by rfl)) (ds_one (ds_ret de_bl)) ds_nil))) (ds_cons (ds_for (vs := [2]) PassesOwn.never (by rfl) (di_seq (de_F (de_lst (da_cons de_non (da_cons (de_F (de_lst (da_cons de_int da_nil))) (da_cons (de_tup (da_cons (de_var 1) da_nil)) (da_cons (de_tup (da_cons (de_un un_neg b_neg de_int) da_nil)) (da_cons (de_tup (da_cons de_int (da_cons de_int da_nil))) (da_cons (de_tup (da_cons de_int (da_cons de_int da_nil))) (da_cons (de_tup (da_cons de_bl da_nil)) da_nil)))))))))) (dg_name (vs := [2]) sc__law_doors_right.nd rfl (by first | exact Or.inl rfl | exact Or.inr rfl) (by decide)) (ds_cons (ds_if (dt_cmp (op_neD hr.u64) b_ne (de_F (de_lc (own := [("way", 4)]) [4] rfl (by rfl) sc__law_doors_right.nd (di_seq (de_tup (da_cons de_int (da_cons de_int da_nil)))) (blkOk_by (N := ["warren", "holes", "bad", "plans", "way"]) (sc := defScope s__law_doors_right) (by decide +kernel)) (fun _ _ _ _ _ => (dg_name (vs := [4]) sc__law_doors_right.nd rfl (by first | exact Or.inl rfl | exact Or.inr rfl) (by decide))) (fun _ _ _ _ _ => dts_nil) (fun _ _ _ _ _ => (de_f0 ((G__law_kind).mono (by decide)) hr (by rfl) D.m__law_kind D.F__law_kind.kp D.b__law_kind (da_cons (de_var 4) (da_cons (de_var 0) (da_cons (de_var 2) (da_cons de_non da_nil)))))))) (de_F (de_opF op_rep b_repL (de_F (de_lst (da_cons de_str da_nil))) de_int)) (by rfl)) (ds_one (ds_ret de_bl)) ds_nil) (ds_cons (ds_if (dt_cmp (op_neD hr.u64) b_ne (de_F (de_lc (own := [("way", 4)]) [4] rfl (by rfl) sc__law_doors_right.nd (di_seq (de_tup (da_cons de_int (da_cons de_int (da_cons de_int da_nil))))) (blkOk_by (N := ["warren", "holes", "bad", "plans", "way"]) (sc := defScope s__law_doors_right) (by decide +kernel)) (fun _ _ _ _ _ => (dg_name (vs := [4]) sc__law_doors_right.nd rfl (by first | exact Or.inl rfl | exact Or.inr rfl) (by decide))) (fun _ _ _ _ _ => dts_nil) (fun _ _ _ _ _ => (de_f0 ((G__law_kind).mono (by decide)) hr (by rfl) D.m__law_kind D.F__law_kind.kp D.b__law_kind (da_cons (de_var 4) (da_cons (de_var 0) (da_cons de_int (da_cons (de_var 2) da_nil)))))))) (de_F (de_opF op_rep b_repL (de_F (de_lst (da_cons de_str da_nil))) de_int)) (by rfl)) (ds_one (ds_ret de_bl)) ds_nil) (ds_one (ds_if (dt_cmp (op_neD hr.u64) b_ne (de_f0 ((G__law_kind).mono (by decide)) hr (by rfl) D.m__law_kind D.F__law_kind.kp D.b__law_kind (da_cons de_int (da_cons (de_var 0) (da_cons (de_tup da_nil) (da_cons (de_var 2) da_nil))))) de_str (by rfl)) (ds_one (ds_ret de_bl)) ds_nil))))) (ds_cons (ds_set sc__law_doors_right.nd rfl (by first | exact Or.inl rfl | exact Or.inr rfl) (de_F (de_lst (da_cons de_non (da_cons (de_tup da_nil) (da_cons (de_F (de_lst (da_cons de_non da_nil))) (da_cons (de_F (de_lst (da_cons (de_tup (da_cons de_int (da_cons de_int da_nil))) da_nil))) (da_cons (de_F (de_opF op_rep b_repL (de_F (de_lst (da_cons (de_tup da_nil) da_nil))) de_int)) (da_cons (de_F (de_lst (da_cons (de_F (de_lst (da_cons de_int da_nil))) da_nil))) da_nil))))))))) (ds_one (ds_ret (de_cmp (op_eqD hr.u64) b_eq (de_F (de_lc (own := [("bad", 2)]) [2] rfl (by rfl) sc__law_doors_right.nd (di_seq (de_var 3)) (blkOk_by (N := ["warren", "holes", "bad", "plans", "way"]) (sc := defScope s__law_doors_right) (by decide +kernel)) (fun _ _ _ _ _ => (dg_name (vs := [2]) sc__law_doors_right.nd rfl (by first | exact Or.inl rfl | exact Or.inr rfl) (by decide))) (fun _ _ _ _ _ => dts_nil) (fun _ _ _ _ _ => (de_f0 ((G__law_kind).mono (by decide)) hr (by rfl) D.m__law_kind D.F__law_kind.kp D.b__law_kind (da_cons de_int (da_cons (de_var 0) (da_cons (de_tup (da_cons de_int da_nil)) (da_cons (de_var 2) da_nil)))))))) (de_F (de_opF op_rep b_repL (de_F (de_lst (da_cons de_str da_nil))) de_int)) (by rfl)))))))))
theorem fn__law_doors_right {P : Program} {w : World} {K : PySem.W.Frag} {mg : Str → Option Value} {base : Heap} (D : Md K mg) {φ__law_kind : F0} (G__law_kind : FnOk P w K mg base CX0 7 D.a__law_kind D.d__law_kind ["way", "one", "two", "three"] (spF0 K EW0 false φ__law_kind)) {φ : F0} (h : ∀ ds k x, φ ds k x → ds.length = 1 ∧ t__law_doors_right φ__law_kind (endF0 false k x) (envF0 ["warren", "holes", "bad", "plans", "way"] ds)) : FnOk P w K mg base CX0 8 D.a__law_doors_right D.d__law_doors_right ["warren"] (spF0 K EW0 false φ) :=
  fn_F0 D.F__law_doors_right sc__law_doors_right rfl h fun cdv A outer s H E hr => der__law_doors_right D G__law_kind cdv A outer s H E hr

def t_law (φ__law_bag : F0) (φ__law_warren : F1) (φ__law_take : F1) (φ__law_bent : F1) (φ__law_of : F1) (φ_is_lot : F0) (φ_is_warren : F0) (φ__law_is_lot : F0) (φ__law_is_warren : F0) (φ_behind : F0) (φ__law_later : F0) (φ__law_doors_right : F0) : DS := (sSeq (sFor (diRng1 (dOp addA (dCall min2F (daCons (dCall lenF (daCons (dVar 0) daNil)) (daCons (dC (.int 8)) daNil))) (dC (.int 2)))) (dgName 1) (sSeq (sAsgO 2 (dF0 φ__law_bag (daCons (dVar 0) (daCons (dVar 1) daNil)))) (sSeq (sAsg 3 (dF1 φ__law_warren 2 (daCons (dC (.int 10)) daNil))) (sSeq (sAsg 4 (dCall tupF (daCons (dLc (diRng1 (dOp ixD (dVar 3) (dC (.int 0)))) (dgName 11) (dtB (dOp eqOp (dF1 φ__law_take 2 (daCons (dC (.int 2)) daNil)) (dC (.int 0)))) (dVar 11) [11]) daNil))) (sSeq (sAsgO 5 (dLst (daCons (dVar 3) (daCons (dCall lstF (daCons (dVar 3) daNil)) (daCons (dVar 4) (daCons (dCall lstF (daCons (dVar 4) daNil)) (daCons (dBack (dVar 4)) (daCons (dTup daNil) (daCons (dC .non) (daCons (dC (.int 3)) (daCons (dTup (daCons (dC (.int 2)) (daCons (dTup (daCons (dTup (daCons (dC (.int 0)) (daCons (dC (.int 1)) daNil))) daNil)) daNil))) (daCons (dTup (daCons (dC (.int 2)) (daCons (dTup daNil) daNil))) (daCons (dTup (daCons (dC (.int 1)) (daCons (dTup daNil) daNil))) daNil))))))))))))) (sFreeze 5 (sSeq (sAsgO 5 (dOp catL (dVar 5) (dLc (diRng1 (dC (.int 10))) (dgName 9) dtYes (dF1 φ__law_bent 2 (daCons (dF1 φ__law_of 2 (daCons (dLst (daCons (dVar 3) (daCons (dVar 3) (daCons (dVar 4) daNil)))) daNil)) daNil)) [9]))) (sSeq (sFor (diSeq (dTup (daCons (dC (.int 10)) (daCons (dC (.int 11)) daNil)))) (dgName 6) (sExpr (dApp 5 (dTup (daCons (dVar 6) (daCons (dCall tupF (daCons (dLc (diRng2 (dC (.int 1)) (dVar 6)) (dgName 11) dtYes (dTup (daCons (dC (.int 0)) (daCons (dVar 11) daNil))) [11]) daNil)) daNil)))))) (sFreeze 5 (sSeq (sFor (diSeq (dVar 5)) (dgName 7) (sSeq (sAsg 8 (dLst (daCons (dF0 φ_is_warren (daCons (dVar 7) daNil)) (daCons (dF0 φ_is_lot (daCons (dVar 3) (daCons (dVar 7) daNil))) daNil)))) (sSeq (sIf (dtB (dOp neOp (dVar 8) (dLst (daCons (dF0 φ__law_is_warren (daCons (dVar 7) daNil)) (daCons (dF0 φ__law_is_lot (daCons (dVar 3) (daCons (dVar 7) daNil))) daNil))))) (sRet (dC (.bl false))) sNext) (sIf (dtB (dOp neOp (dLc (diSeq (dVar 8)) (dgName 12) (dtNot (dtTru (dIsi "bool" (dVar 12)))) (dVar 12) [12]) (dLst daNil))) (sRet (dC (.bl false))) sNext)))) (sSeq (sFor (diRng1 (dC (.int 6))) (dgName 9) (sSeq (sAsg 10 (dCall tupF (daCons (dLc (diRng1 (dOp ixD (dVar 3) (dC (.int 0)))) (dgName 11) (dtB (dOp eqOp (dF1 φ__law_take 2 (daCons (dC (.int 3)) daNil)) (dC (.int 0)))) (dVar 11) [11]) daNil))) (sIf (dtB (dOp neOp (dF0 φ_behind (daCons (dVar 3) (daCons (dVar 4) (daCons (dVar 10) daNil)))) (dF0 φ__law_later (daCons (dVar 3) (daCons (dVar 4) (daCons (dVar 10) daNil)))))) (sRet (dC (.bl false))) sNext))) (sIf (dtNot (dtTru (dF0 φ__law_doors_right (daCons (dVar 3) daNil)))) (sRet (dC (.bl false))) sNext)))))))))))) (sRet (dAndV (dOp eqOp (dF0 φ_behind (daCons (dTup (daCons (dC (.int 3)) (daCons (dTup (daCons (dTup (daCons (dC (.int 0)) (daCons (dC (.int 1)) daNil))) (daCons (dTup (daCons (dC (.int 1)) (daCons (dC (.int 2)) daNil))) daNil))) daNil))) (daCons (dTup (daCons (dC (.int 0)) (daCons (dC (.int 1)) daNil))) (daCons (dTup (daCons (dC (.int 1)) daNil)) daNil)))) (dTup (daCons (dC (.int 1)) daNil))) (dOp eqOp (dF0 φ_behind (daCons (dTup (daCons (dC (.int 2)) (daCons (dTup (daCons (dTup (daCons (dC (.int 0)) (daCons (dC (.int 1)) daNil))) daNil)) daNil))) (daCons (dTup daNil) (daCons (dTup (daCons (dC (.int 0)) daNil)) daNil)))) (dTup daNil)))))
theorem der_law {P : Program} {w : World} {K : PySem.W.Frag} {mg : Str → Option Value} {base : Heap} (D : Md K mg) {φ__law_bag : F0} (G__law_bag : FnOk P w K mg base CX0 1 D.a__law_bag D.d__law_bag ["script", "k"] (spF0 K EW0 true φ__law_bag)) {φ__law_warren : F1} (G__law_warren : FnOk P w K mg base CX0 3 D.a__law_warren D.d__law_warren ["bag", "most"] (spF1 K EW0 φ__law_warren)) {φ__law_take : F1} (G__law_take : FnOk P w K mg base CX0 1 D.a__law_take D.d__law_take ["bag", "count"] (spF1 K EW0 φ__law_take)) {φ__law_bent : F1} (G__law_bent : FnOk P w K mg base CX0 6 D.a__law_bent D.d__law_bent ["bag", "thing"] (spF1 K EW0 φ__law_bent)) {φ__law_of : F1} (G__law_of : FnOk P w K mg base CX0 2 D.a__law_of D.d__law_of ["bag", "some"] (spF1 K EW0 φ__law_of)) {φ_is_lot : F0} (G_is_lot : FnOk P w K mg base CX0 5 D.a_is_lot D.d_is_lot ["warren", "thing"] (spF0 K EW0 false φ_is_lot)) {φ_is_warren : F0} (G_is_warren : FnOk P w K mg base CX0 3 D.a_is_warren D.d_is_warren ["thing"] (spF0 K EW0 false φ_is_warren)) {φ__law_is_lot : F0} (G__law_is_lot : FnOk P w K mg base CX0 2 D.a__law_is_lot D.d__law_is_lot ["warren", "thing"] (spF0 K EW0 false φ__law_is_lot)) {φ__law_is_warren : F0} (G__law_is_warren : FnOk P w K mg base CX0 2 D.a__law_is_warren D.d__law_is_warren ["thing"] (spF0 K EW0 false φ__law_is_warren)) {φ_behind : F0} (G_behind : FnOk P w K mg base CX0 5 D.a_behind D.d_behind ["warren", "where", "lot"] (spF0 K EW0 false φ_behind)) {φ__law_later : F0} (G__law_later : FnOk P w K mg base CX0 2 D.a__law_later D.d__law_later ["warren", "where", "lot"] (spF0 K EW0 false φ__law_later)) {φ__law_doors_right : F0} (G__law_doors_right : FnOk P w K mg base CX0 8 D.a__law_doors_right D.d__law_doors_right ["warren"] (spF0 K EW0 false φ__law_doors_right)) (cdv : Value) (A : Around) (outer : List PySem.Env) (s : Shared) (H : Hp) (E : XK)
    (hr : Room 8 (A.deeper (envOfC "law" (defScope s_law) s.heap.objs.size D.a_law cdv))) : PSs (cxOf CX0 P w K mg base ["script", "k", "bag", "warren", "where", "things", "holes", "thing", "told", "turn", "lot_so", "hole", "one"] "law" (defScope s_law) D.a_law cdv A outer s H E).nox (defBody s_law) (upS K W0 false (t_law φ__law_bag φ__law_warren φ__law_take φ__law_bent φ__law_of φ_is_lot φ_is_warren φ__law_is_lot φ__law_is_warren φ_behind φ__law_later φ__law_doors_right)) :=
  (ds_cons (ds_for (vs := [1]) PassesOwn.never (by rfl) (di_rng1 (by rfl) D.z_range (de_op op_addA b_addA (de_callB (call_min2 (by rfl)) c_min2 (by rfl) D.z_min (by decide +kernel) (da_cons (de_callB call_len_seq c_len (by rfl) D.z_len (by decide +kernel) (da_cons (de_var 0) da_nil)) (da_cons de_int da_nil))) de_int)) (dg_name (vs := [1]) sc_law.nd rfl (by first | exact Or.inl rfl | exact Or.inr rfl) (by decide)) (ds_cons (ds_setO sc_law.nd rfl (by first | exact Or.inl rfl | exact Or.inr rfl) (de_f0F ((G__law_bag).mono (by decide)) hr (by rfl) D.m__law_bag D.F__law_bag.kp D.b__law_bag (da_cons (de_var 0) (da_cons (de_var 1) da_nil)))) (ds_cons (ds_set sc_law.nd rfl (by first | exact Or.inl rfl | exact Or.inr rfl) (de_f1 (i := 2) ((G__law_warren).mono (by decide)) hr (by rfl) D.m__law_warren D.F__law_warren.kp D.b__law_warren (pv 2) (da_cons de_int da_nil))) (ds_cons (ds_set sc_law.nd rfl (by first | exact Or.inl rfl | exact Or.inr rfl) (de_callT call_tuple_of c_tuple (by rfl) D.z_tuple (by decide +kernel) (da_cons (de_F (de_lc (own := [("hole", 11)]) [11] rfl (by rfl) sc_law.nd (di_rng1 (by rfl) D.z_range (de_ix ix_seq b_ix (de_var 3) de_int (fun _ _ => rfl))) (blkOk_by (N := ["script", "k", "bag", "warren", "where", "things", "holes", "thing", "told", "turn", "lot_so", "hole", "one"]) (sc := defScope s_law) (by decide +kernel)) (fun _ _ _ _ _ => (dg_name (vs := [11]) sc_law.nd rfl (by first | exact Or.inl rfl | exact Or.inr rfl) (by decide))) (fun _ _ _ _ _ => (dts_one (dt_cmp (op_eqD hr.u64) b_eq (de_f1 (i := 2) ((G__law_take).mono (by decide)) hr (by rfl) D.m__law_take D.F__law_take.kp D.b__law_take (pv 2) (da_cons de_int da_nil)) de_int (by rfl)))) (fun _ _ _ _ _ => (de_var 11)))) da_nil))) (ds_cons (ds_setO sc_law.nd rfl (by first | exact Or.inl rfl | exact Or.inr rfl) (de_lst (da_cons (de_var 3) (da_cons (de_F (de_callTF call_list_of c_list (by rfl) D.z_list (by decide +kernel) (da_cons (de_var 3) da_nil))) (da_cons (de_var 4) (da_cons (de_F (de_callTF call_list_of c_list (by rfl) D.z_list (by decide +kernel) (da_cons (de_var 4) da_nil))) (da_cons (de_back (de_var 4)) (da_cons (de_tup da_nil) (da_cons de_non (da_cons de_int (da_cons (de_tup (da_cons de_int (da_cons (de_tup (da_cons (de_tup (da_cons de_int (da_cons de_int da_nil))) da_nil)) da_nil))) (da_cons (de_tup (da_cons de_int (da_cons (de_tup da_nil) da_nil))) (da_cons (de_tup (da_cons de_int (da_cons (de_tup da_nil) da_nil))) da_nil))))))))))))) (ds_freeze 5 (ds_cons (ds_setO sc_law.nd rfl (by first | exact Or.inl rfl | exact Or.inr rfl) (de_opF op_cat b_catL (de_var 5) (de_F (de_lc (own := [("turn", 9)]) [9] rfl (by rfl) sc_law.nd (di_rng1 (by rfl) D.z_range de_int) (blkOk_by (N := ["script", "k", "bag", "warren", "where", "things", "holes", "thing", "told", "turn", "lot_so", "hole", "one"]) (sc := defScope s_law) (by decide +kernel)) (fun _ _ _ _ _ => (dg_name (vs := [9]) sc_law.nd rfl (by first | exact Or.inl rfl | exact Or.inr rfl) (by decide))) (fun _ _ _ _ _ => dts_nil) (fun _ _ _ _ _ => (de_f1 (i := 2) ((G__law_bent).mono (by decide)) hr (by rfl) D.m__law_bent D.F__law_bent.kp D.b__law_bent (pv 2) (da_cons (de_f1 (i := 2) ((G__law_of).mono (by decide)) hr (by rfl) D.m__law_of D.F__law_of.kp D.b__law_of (pv 2) (da_cons (de_F (de_lst (da_cons (de_var 3) (da_cons (de_var 3) (da_cons (de_var 4) da_nil))))) da_nil)) da_nil))))))) (ds_cons (ds_for (vs := [6]) PassesOwn.never (by rfl) (di_seq (de_tup (da_cons de_int (da_cons de_int da_nil)))) (dg_name (vs := [6]) sc_law.nd rfl (by first | exact Or.inl rfl | exact Or.inr rfl) (by decide)) (ds_one (ds_expr (de_app (pe_bm PySem.F.plainAttrs_list PySem.F.slot_list_append PySem.F.type_list_append mt_append (pv 5) (pa_cons (de_tup (da_cons (de_var 6) (da_cons (de_callT call_tuple_of c_tuple (by rfl) D.z_tuple (by decide +kernel) (da_cons (de_F (de_lc (own := [("hole", 11)]) [11] rfl (by rfl) sc_law.nd (di_rng2 (by rfl) D.z_range de_int (de_var 6)) (blkOk_by (N := ["script", "k", "bag", "warren", "where", "things", "holes", "thing", "told", "turn", "lot_so", "hole", "one"]) (sc := defScope s_law) (by decide +kernel)) (fun _ _ _ _ _ => (dg_name (vs := [11]) sc_law.nd rfl (by first | exact Or.inl rfl | exact Or.inr rfl) (by decide))) (fun _ _ _ _ _ => dts_nil) (fun _ _ _ _ _ => (de_tup (da_cons de_int (da_cons (de_var 11) da_nil)))))) da_nil)) da_nil))) pa_nil)))))) (ds_freeze 5 (ds_cons (ds_for (vs := [7]) PassesOwn.never (by rfl) (di_seq (de_var 5)) (dg_name (vs := [7]) sc_law.nd rfl (by first | exact Or.inl rfl | exact Or.inr rfl) (by decide)) (ds_cons (ds_set sc_law.nd rfl (by first | exact Or.inl rfl | exact Or.inr rfl) (de_F (de_lst (da_cons (de_f0 ((G_is_warren).mono (by decide)) hr (by rfl) D.m_is_warren D.F_is_warren.kp D.b_is_warren (da_cons (de_var 7) da_nil)) (da_cons (de_f0 ((G_is_lot).mono (by decide)) hr (by rfl) D.m_is_lot D.F_is_lot.kp D.b_is_lot (da_cons (de_var 3) (da_cons (de_var 7) da_nil))) da_nil))))) (ds_cons (ds_if (dt_cmp (op_neD hr.u64) b_ne (de_var 8) (de_F (de_lst (da_cons (de_f0 ((G__law_is_warren).mono (by decide)) hr (by rfl) D.m__law_is_warren D.F__law_is_warren.kp D.b__law_is_warren (da_cons (de_var 7) da_nil)) (da_cons (de_f0 ((G__law_is_lot).mono (by decide)) hr (by rfl) D.m__law_is_lot D.F__law_is_lot.kp D.b__law_is_lot (da_cons (de_var 3) (da_cons (de_var 7) da_nil))) da_nil)))) (by rfl)) (ds_one (ds_ret de_bl)) ds_nil) (ds_one (ds_if (dt_cmp (op_neD hr.u64) b_ne (de_F (de_lc (own := [("one", 12)]) [12] rfl (by rfl) sc_law.nd (di_seq (de_var 8)) (blkOk_by (N := ["script", "k", "bag", "warren", "where", "things", "holes", "thing", "told", "turn", "lot_so", "hole", "one"]) (sc := defScope s_law) (by decide +kernel)) (fun _ _ _ _ _ => (dg_name (vs := [12]) sc_law.nd rfl (by first | exact Or.inl rfl | exact Or.inr rfl) (by decide))) (fun _ _ _ _ _ => (dts_one (dt_not (dt_tru (de_isi (T := "bool") (by decide) (by rfl) D.z_isinstance (pe_bltn (v := .ty "bool") (by rfl) D.z_bool (by decide +kernel) rfl) (de_var 12)))))) (fun _ _ _ _ _ => (de_var 12)))) (de_F (de_lst da_nil)) (by rfl)) (ds_one (ds_ret de_bl)) ds_nil))))) (ds_cons (ds_for (vs := [9]) PassesOwn.never (by rfl) (di_rng1 (by rfl) D.z_range de_int) (dg_name (vs := [9]) sc_law.nd rfl (by first | exact Or.inl rfl | exact Or.inr rfl) (by decide)) (ds_cons (ds_set sc_law.nd rfl (by first | exact Or.inl rfl | exact Or.inr rfl) (de_callT call_tuple_of c_tuple (by rfl) D.z_tuple (by decide +kernel) (da_cons (de_F (de_lc (own := [("hole", 11)]) [11] rfl (by rfl) sc_law.nd (di_rng1 (by rfl) D.z_range (de_ix ix_seq b_ix (de_var 3) de_int (fun _ _ => rfl))) (blkOk_by (N := ["script", "k", "bag", "warren", "where", "things", "holes", "thing", "told", "turn", "lot_so", "hole", "one"]) (sc := defScope s_law) (by decide +kernel)) (fun _ _ _ _ _ => (dg_name (vs := [11]) sc_law.nd rfl (by first | exact Or.inl rfl | exact Or.inr rfl) (by decide))) (fun _ _ _ _ _ => (dts_one (dt_cmp (op_eqD hr.u64) b_eq (de_f1 (i := 2) ((G__law_take).mono (by decide)) hr (by rfl) D.m__law_take D.F__law_take.kp D.b__law_take (pv 2) (da_cons de_int da_nil)) de_int (by rfl)))) (fun _ _ _ _ _ => (de_var 11)))) da_nil))) (ds_one (ds_if (dt_cmp (op_neD hr.u64) b_ne (de_f0 ((G_behind).mono (by decide)) hr (by rfl) D.m_behind D.F_behind.kp D.b_behind (da_cons (de_var 3) (da_cons (de_var 4) (da_cons (de_var 10) da_nil)))) (de_f0 ((G__law_later).mono (by decide)) hr (by rfl) D.m__law_later D.F__law_later.kp D.b__law_later (da_cons (de_var 3) (da_cons (de_var 4) (da_cons (de_var 10) da_nil)))) (by rfl)) (ds_one (ds_ret de_bl)) ds_nil)))) (ds_one (ds_if (dt_not (dt_tru (de_f0 ((G__law_doors_right).mono (by decide)) hr (by rfl) D.m__law_doors_right D.F__law_doors_right.kp D.b__law_doors_right (da_cons (de_var 3) da_nil)))) (ds_one (ds_ret de_bl)) ds_nil))))))))))))) (ds_one (ds_ret (de_and (de_cmp (op_eqD hr.u64) b_eq (de_f0 ((G_behind).mono (by decide)) hr (by rfl) D.m_behind D.F_behind.kp D.b_behind (da_cons (de_tup (da_cons de_int (da_cons (de_tup (da_cons (de_tup (da_cons de_int (da_cons de_int da_nil))) (da_cons (de_tup (da_cons de_int (da_cons de_int da_nil))) da_nil))) da_nil))) (da_cons (de_tup (da_cons de_int (da_cons de_int da_nil))) (da_cons (de_tup (da_cons de_int da_nil)) da_nil)))) (de_tup (da_cons de_int da_nil)) (by rfl)) (de_one (de_cmp (op_eqD hr.u64) b_eq (de_f0 ((G_behind).mono (by decide)) hr (by rfl) D.m_behind D.F_behind.kp D.b_behind (da_cons (de_tup (da_cons de_int (da_cons (de_tup (da_cons (de_tup (da_cons de_int (da_cons de_int da_nil))) da_nil)) da_nil))) (da_cons (de_tup da_nil) (da_cons (de_tup (da_cons de_int da_nil)) da_nil)))) (de_tup da_nil) (by rfl)))))))
theorem fn_law {P : Program} {w : World} {K : PySem.W.Frag} {mg : Str → Option Value} {base : Heap} (D : Md K mg) {φ__law_bag : F0} (G__law_bag : FnOk P w K mg base CX0 1 D.a__law_bag D.d__law_bag ["script", "k"] (spF0 K EW0 true φ__law_bag)) {φ__law_warren : F1} (G__law_warren : FnOk P w K mg base CX0 3 D.a__law_warren D.d__law_warren ["bag", "most"] (spF1 K EW0 φ__law_warren)) {φ__law_take : F1} (G__law_take : FnOk P w K mg base CX0 1 D.a__law_take D.d__law_take ["bag", "count"] (spF1 K EW0 φ__law_take)) {φ__law_bent : F1} (G__law_bent : FnOk P w K mg base CX0 6 D.a__law_bent D.d__law_bent ["bag", "thing"] (spF1 K EW0 φ__law_bent)) {φ__law_of : F1} (G__law_of : FnOk P w K mg base CX0 2 D.a__law_of D.d__law_of ["bag", "some"] (spF1 K EW0 φ__law_of)) {φ_is_lot : F0} (G_is_lot : FnOk P w K mg base CX0 5 D.a_is_lot D.d_is_lot ["warren", "thing"] (spF0 K EW0 false φ_is_lot)) {φ_is_warren : F0} (G_is_warren : FnOk P w K mg base CX0 3 D.a_is_warren D.d_is_warren ["thing"] (spF0 K EW0 false φ_is_warren)) {φ__law_is_lot : F0} (G__law_is_lot : FnOk P w K mg base CX0 2 D.a__law_is_lot D.d__law_is_lot ["warren", "thing"] (spF0 K EW0 false φ__law_is_lot)) {φ__law_is_warren : F0} (G__law_is_warren : FnOk P w K mg base CX0 2 D.a__law_is_warren D.d__law_is_warren ["thing"] (spF0 K EW0 false φ__law_is_warren)) {φ_behind : F0} (G_behind : FnOk P w K mg base CX0 5 D.a_behind D.d_behind ["warren", "where", "lot"] (spF0 K EW0 false φ_behind)) {φ__law_later : F0} (G__law_later : FnOk P w K mg base CX0 2 D.a__law_later D.d__law_later ["warren", "where", "lot"] (spF0 K EW0 false φ__law_later)) {φ__law_doors_right : F0} (G__law_doors_right : FnOk P w K mg base CX0 8 D.a__law_doors_right D.d__law_doors_right ["warren"] (spF0 K EW0 false φ__law_doors_right)) {φ : F0} (h : ∀ ds k x, φ ds k x → ds.length = 1 ∧ t_law φ__law_bag φ__law_warren φ__law_take φ__law_bent φ__law_of φ_is_lot φ_is_warren φ__law_is_lot φ__law_is_warren φ_behind φ__law_later φ__law_doors_right (endF0 false k x) (envF0 ["script", "k", "bag", "warren", "where", "things", "holes", "thing", "told", "turn", "lot_so", "hole", "one"] ds)) : FnOk P w K mg base CX0 9 D.a_law D.d_law ["script"] (spF0 K EW0 false φ) :=
  fn_F0 D.F_law sc_law rfl h fun cdv A outer s H E hr => der_law D G__law_bag G__law_warren G__law_take G__law_bent G__law_of G_is_lot G_is_warren G__law_is_lot G__law_is_warren G_behind G__law_later G__law_doors_right cdv A outer s H E hr
end K01

set_option Elab.async false
set_option linter.all false
set_option maxRecDepth 100000
set_option maxHeartbeats 4000000
namespace K01
open PySem PySem.Spec PyProof.Rows L2 FX MA
local macro_rules
  | `(tactic| and_intros) => `(tactic| simp (config := { failIfUnchanged := false }) only [sNext, sSeq, sRet, sRetN, sRetOwn, sAsg, sAsgO, sExpr, sIf, sBreak, sCont, sFreeze, sPar, sUnp, sSetL, sPutD, sAugI, sAugL,
  dVar, dC, dOp, dUn, daNil, daCons, dTup, dLst, dCall, dtB, dtTru, dtNot, dtAnd, dtOr, dAndV, dOrV, dNotV, dIf, dChain, dPur, dPurF, dtPur, dTake, dGetA, dGetB, dApp, dPop, dPopAt, dIns0, dItemO, dIsi, dSl, dpN, dpS, dSortSet, dMinP, dLstRg, dTupRg, dF0, dF1,
  diSeq, diRng1, diRng2, diZip, diEnum, diRev, dgName, dgTup, setAll, setM, endF0, endF1, envF0, envF1, wipeE, dtYes, fls, mineD, putE, Sl.put, Sl.seen, x_itT, x_itL, x_itS,
  List.map_cons, List.map_nil, List.length_cons, List.length_nil, List.getElem?_cons_zero, List.getElem?_cons_succ, List.set_cons_zero, List.set_cons_succ, List.replicate, List.append_assoc, List.cons_append, List.nil_append,
  Option.some.injEq, Sl.frz.injEq, Sl.own.injEq, Sl.par.injEq, D.int.injEq, D.bl.injEq, D.tup.injEq, D.lst.injEq, D.dI.injEq, D.dT.injEq, List.cons.injEq, exists_eq_left', exists_eq_left, exists_eq_right, exists_eq_right', exists_eq, exists_eq', Int.reducePow, Int.reduceNeg, Int.reduceLT, Int.reduceLE, Int.reduceMul, Int.reduceAdd, Int.reduceSub, Int.reduceToNat, Nat.reducePow, x_na10, or_true, true_or, and_self, x_set0, x_set1, x_ixN20, x_ixN21, and_true, true_and, Nat.reduceAdd, Nat.reduceSub, Nat.reduceLT, Nat.reduceLeDiff, Int.reduceEq, decide_true, decide_false, Int.cast_ofNat_Int,
  x_sub, x_add, x_addT, x_mul, x_div, x_mod, x_pow, x_le, x_gt, x_ge, x_lt, x_neg, x_catL, x_eq, x_ne, x_isN, x_notN, x_isB, x_notB, x_lenT, x_lenL, x_lenS, x_min, x_max, x_intI, x_intB, x_tupL, x_tupT, x_lstL, x_lstT, x_ixT0, x_ixT1, x_ixL0, x_ixL1, tru_non, tru_bl, tru_int, tru_tup, tru_lst, ty_non, ty_bl, ty_int, ty_str, ty_tup, ty_lst, x_slT, x_slL, and_assoc, exists_and_left, imm, imms,
  reduceIte, Bool.not_true, Bool.not_false, Bool.false_eq_true, Option.map_some, if_true, if_false, false_and, and_false, reduceCtorEq, exists_const, exists_false, false_or, or_false, Bool.true_and, Bool.and_true])
local macro_rules
  | `(tactic| subst_eqs) => `(tactic| simp (config := { failIfUnchanged := false }) only [x_w0, x_w1, x_ty, x_tyT, x_truT, x_lenI, x_itI, Option.some.injEq, exists_eq_left', isi1, isi2, isi3, isi4, isi5, isi6, isi7, isi8, isi9, isi10, isi11, isi12, isi13, isi14, isi15, isi16, isi17, isi18, isi19, isi20, isi21, isi22, isi23, isi24, Bool.not_true, Bool.not_false, if_true, if_false, Bool.false_eq_true, reduceIte])
local macro_rules
  | `(tactic| ac_rfl) => `(tactic| (try and_intros; try subst_eqs; try and_intros; try subst_eqs; try and_intros))
theorem p_is_from (ds : List D) (k : D → Prop) (x : Ex → Prop) (h : fIsFrom ds k x) : ds.length = 3 ∧ t_is_from (endF0 false k x) (envF0 ["thing", "low", "high"] ds) := by
  obtain ⟨d, lo, hi, rfl, ht, hk⟩ := h
  refine ⟨rfl, ?_⟩
  unfold t_is_from
  and_intros
  cases d with
  | int i =>
    and_intros; subst_eqs
    unfold isFromD at hk
    simp only [] at hk
    by_cases h : lo ≤ i
    · rw [decide_eq_true h]; rw [decide_eq_true h] at hk; and_intros; simpa using hk
    · rw [decide_eq_false h]; rw [decide_eq_false h] at hk; and_intros; simpa using hk
  | bl b => and_intros; subst_eqs; exact hk
  | non => and_intros; subst_eqs; exact hk
  | str _ => and_intros; subst_eqs; exact hk
  | tup _ => and_intros; subst_eqs; exact hk
  | lst _ => and_intros; subst_eqs; exact hk
  | dI _ => cases ht
  | dT _ => cases ht
  | scr _ => cases ht
  | obj _ _ => cases ht
theorem pl_ty {n : Nat} {d : D} (h : plD n d = true) : (tyD d).isSome = true := by
  cases d <;> first | rfl | (cases n <;> cases h)
theorem zip_len : ∀ a b : List D, (zipD a b).length ≤ a.length
  | [], _ => by simp [zipD]
  | _ :: _, [] => by simp [zipD]
  | a :: as, b :: bs => by
    have := zip_len as bs
    simp [zipD]; omega
theorem cut_tail (es : List D) : FX.cutD es (some 1) none = es.tail := by
  unfold FX.cutD
  rw [show HT.sIx es.length 0 (some 1) = min 1 es.length from HT.sIx_nat es.length 0 1, HT.sIx_none]
  cases es with
  | nil => rfl
  | cons x r =>
    rw [show min 1 (x :: r).length = 1 by rw [List.length_cons]; omega]
    show (List.take ((x :: r).length - 1) r) = r
    rw [List.length_cons, Nat.add_sub_cancel]
    exact List.take_length
theorem zip_tail : ∀ (n : Int) (es : List D), es.all (fun e => isFromD e 0 n) = true → (zipD es es.tail).all (fun d => match d with | .tup [.int a, .int b] => decide (a < b) | _ => true) = incrD es ∧ ∀ d ∈ zipD es es.tail, ∃ a b, d = .tup [.int a, .int b]
  | n, [], _ => ⟨rfl, fun d hd => nomatch hd⟩
  | n, [a], _ => ⟨by cases a <;> rfl, fun d hd => nomatch hd⟩
  | n, a :: b :: r, h => by
    rw [List.all_cons, Bool.and_eq_true] at h
    obtain ⟨h1, h2⟩ := zip_tail n (b :: r) h.2
    have h3 := h.2
    rw [List.all_cons, Bool.and_eq_true] at h3
    cases a with
    | int i =>
      cases b with
      | int j =>
        refine ⟨?_, fun d hd => ?_⟩
        · show (decide (i < j) && (zipD (D.int j :: r) r).all _) = (decide (i < j) && incrD (D.int j :: r))
          rw [← h1]; rfl
        · rcases List.mem_cons.mp hd with rfl | hd
          · exact ⟨i, j, rfl⟩
          · exact h2 d hd
      | _ => exact absurd h3.1 (by simp [isFromD])
    | _ => exact absurd h.1 (by simp [isFromD])
theorem p_good_lot (ds : List D) (k : D → Prop) (x : Ex → Prop) (h : fGoodLot ds k x) : ds.length = 2 ∧ t_good_lot fIsFrom (endF0 false k x) (envF0 ["warren", "thing", "hole", "one", "other"] ds) := by
  obtain ⟨w, d, rfl, hp, hl, hk⟩ := h
  refine ⟨rfl, ?_⟩
  unfold t_good_lot
  and_intros
  cases d with
  | tup es => 
    and_intros; subst_eqs
    refine lc_go es _ (fun e => some (.bl (isFromD e 0 ((w.n : Int) - 1)))) (fun K hK => by and_intros; exact hK) (by have : es.length ≤ 1000 := hl; omega) (fun e he J hJ => ?_) ?_
    · ac_rfl
      exact ⟨e, 0, _, rfl, pl_ty (plDs_iff.mp hp e he), hJ⟩
    · rw [fm_some, allF_map]
      ac_rfl
      cases ha : es.all fun e => isFromD e 0 ((w.n : Int) - 1) with
      | false =>
        ac_rfl
        unfold goodLotD at hk
        simp only [ha, Bool.false_and] at hk
        exact hk
      | true =>
        ac_rfl
        obtain ⟨z1, z2⟩ := zip_tail _ _ ha
        refine lc_go (zipD es es.tail) _ (fun d => some (.bl (match d with | .tup [.int a, .int b] => decide (a < b) | _ => true))) (fun K hK => by
          ac_rfl
          rw [cut_tail]
          exact hK) (by have := zip_len es es.tail; have : es.length ≤ 1000 := hl; omega) (fun d hd J hJ => ?_) ?_
        · obtain ⟨a, b, rfl⟩ := z2 d hd
          ac_rfl
          exact hJ
        · rw [fm_some, allF_map, z1]
          ac_rfl
          unfold goodLotD at hk
          simp only [ha, Bool.true_and] at hk
          exact hk
  | int i => and_intros; subst_eqs; exact hk
  | bl b => and_intros; subst_eqs; exact hk
  | non => and_intros; subst_eqs; exact hk
  | str _ => and_intros; subst_eqs; exact hk
  | lst _ => and_intros; subst_eqs; exact hk
  | dI _ => cases hp
  | dT _ => cases hp
  | scr _ => cases hp
  | obj _ _ => cases hp
theorem pl_prs {n : Nat} (E : List (Int × Int)) : plDs (n + 1) (E.map prE) = true := by
  rw [plDs_iff]
  intro d hd
  obtain ⟨p, _, rfl⟩ := List.mem_map.mp hd
  exact pl_tupI n _
theorem zipD_map {α : Type} (f : α → D) : ∀ l : List α, zipD (l.map f) (l.map f).tail = (l.zip l.tail).map fun q => .tup [f q.1, f q.2]
  | [] => rfl
  | [a] => rfl
  | a :: b :: r => by
    show D.tup [f a, f b] :: zipD ((b :: r).map f) ((b :: r).map f).tail = _
    rw [zipD_map f (b :: r)]; rfl
theorem asc_zip {w : Wn} (ok : WOk w) : ((w.E.zip w.E.tail).all fun q => decide ([q.1.1, q.1.2] < [q.2.1, q.2.2])) = true := by
  have asc := ok.asc
  generalize w.E = E at asc
  rw [List.all_eq_true]
  rintro ⟨p, q⟩ h
  have : ltE p q := by
    induction E with
    | nil => cases h
    | cons a E ih =>
      cases E with
      | nil => cases h
      | cons b E =>
        rcases List.mem_cons.mp h with e | h
        · cases e; exact (List.pairwise_cons.mp asc).1 _ (List.mem_cons_self ..)
        · exact ih (List.pairwise_cons.mp asc).2 h
  unfold ltE at this
  simp only [decide_eq_true_iff, List.cons_lt_cons_iff]
  rcases this with h | ⟨h1, h2⟩
  · exact .inl h
  · exact .inr ⟨h1, .inl h2⟩
theorem rangeL_upto (n : Nat) : rangeL 0 (n : Int) = (upto n).map D.int := by
  unfold rangeL upto
  rw [List.map_map]
  have : ((n : Int) - 0).toNat = n := by omega
  rw [this]
  refine List.map_congr_left fun i _ => ?_
  simp
theorem goodLot_ok : ∀ {n : Nat} {l : List Int}, goodLotD n (tupI l) = true ↔ LotOk n l := by
  intro n l
  have h1 : incrD (l.map D.int) = incr l := by
    induction l with
    | nil => rfl
    | cons a l ih =>
      cases l with
      | nil => rfl
      | cons b r =>
        show (decide (a < b) && incrD ((b :: r).map D.int)) = (decide (a < b) && incr (b :: r))
        rw [ih]
  show ((l.map D.int).all (fun e => isFromD e 0 ((n : Int) - 1)) && incrD (l.map D.int)) = true ↔ _
  rw [h1, Bool.and_eq_true, incr_asc, List.all_map, List.all_eq_true]
  unfold LotOk
  constructor
  · rintro ⟨h1, h2⟩
    refine ⟨h2, fun z hz => ?_⟩
    have := h1 z hz
    simp [isFromD] at this
    omega
  · rintro ⟨h1, h2⟩
    refine ⟨fun z hz => ?_, h1⟩
    have := h2 z hz
    simp [isFromD]
    omega
def selD : D → Option (List D)
  | .tup ds => some ds
  | _ => none
def pickD (h : Int) : D → D → Option D
  | .tup [.int a, .int b], .int o => if (decide (h = a ∨ h = b) && decide (o ≠ h)) = true then some (D.int o) else none
  | _, _ => none
theorem pick_pr (h : Int) (p : Int × Int) (o : Int) : pickD h (prE p) (.int o) = if (decide (h = p.1 ∨ h = p.2) && decide (o ≠ h)) = true then some (D.int o) else none := rfl
theorem sel_pr (p : Int × Int) : selD (prE p) = some [.int p.1, .int p.2] := rfl
theorem flat_map_filter (h : Int) : ∀ E : List (Int × Int), ((E.map prE).map fun d => ((selD d).getD []).filterMap (pickD h d)).flatten = (E.map fun p => [p.1, p.2].filter fun o => decide (h = p.1 ∨ h = p.2) && decide (o ≠ h)).flatten.map D.int
  | [] => rfl
  | p :: E => by
    rw [List.map_cons, List.map_cons, List.map_cons, List.flatten_cons, List.flatten_cons, List.map_append, ← flat_map_filter h E]
    congr 1
    rw [sel_pr]
    simp only [Option.getD_some, List.filterMap_cons, List.filterMap_nil, List.filter_cons, List.filter_nil, pick_pr]
    by_cases c1 : (decide (h = p.1 ∨ h = p.2) && decide (p.1 ≠ h)) = true <;> by_cases c2 : (decide (h = p.1 ∨ h = p.2) && decide (p.2 ≠ h)) = true <;> simp only [c1, c2, if_true, if_false, List.map_cons, List.map_nil, Bool.false_eq_true]
theorem flat_len (h : Int) : ∀ E : List (Int × Int), ((E.map prE).map fun d => ((selD d).getD []).filterMap (pickD h d)).flatten.length ≤ 2 * E.length
  | [] => by simp
  | p :: E => by
    rw [List.map_cons, List.map_cons, List.flatten_cons, List.length_append, List.length_cons]
    have h1 : (((selD (prE p)).getD []).filterMap (pickD h (prE p))).length ≤ 2 := Nat.le_trans (List.length_filterMap_le ..) (by rw [sel_pr]; simp)
    have := flat_len h E
    omega
theorem sortF_ints (ns : List Int) : sortF [.lst (ns.map D.int)] = some (.lst ((ns.mergeSort leI).map D.int)) := by
  show (match intsOf (ns.map D.int) with
    | some ns => some (D.lst ((List.mergeSort ns leI).map D.int))
    | none => (tupsOf (ns.map D.int)).map fun ls => D.lst ((List.mergeSort ls leR).map tupI)) = _
  rw [ints_self]
theorem in_pr (h : Int) (p : Int × Int) : inOp (.int h) (prE p) = some (.bl (decide (h = p.1 ∨ h = p.2))) := by
  show inOp (.int h) (tupI [p.1, p.2]) = _
  rw [inOp_ints]
  congr 2
  simp
theorem p_next_to (ds : List D) (k : D → Prop) (x : Ex → Prop) (h : fNextTo ds k x) : ds.length = 2 ∧ t_next_to (endF0 false k x) (envF0 ["warren", "hole", "pair", "one"] ds) := by
  obtain ⟨w, h, rfl, ok, hk⟩ := h
  refine ⟨rfl, ?_⟩
  have hE := len_E ok
  unfold t_next_to
  ac_rfl
  refine lc2_go (w.E.map prE) [Sl.frz (wD w), Sl.frz (.int h), .no, .no] selD (pickD h) (fun d => [Sl.frz (wD w), Sl.frz (.int h), .frz d, .no])
    (fun K hK => by ac_rfl; exact hK) (fun i => ?_) (fun d hd J hJ => ?_) (fun d hd hn => ?_) (fun d hd ds hds => ?_) ?_
  · rw [← List.map_take]
    refine Nat.le_trans (flat_len h _) ?_
    rw [List.length_take]
    omega
  · obtain ⟨p, hp, rfl⟩ := List.mem_map.mp hd
    ac_rfl
    exact hJ
  · obtain ⟨p, hp, rfl⟩ := List.mem_map.mp hd
    cases hn
  · obtain ⟨p, hp, rfl⟩ := List.mem_map.mp hd
    cases hds
    refine ⟨by simp, fun K hK => by ac_rfl; exact ⟨_, rfl, hK⟩, rfl, fun d1 hd1 J hJ => ?_⟩
    obtain ⟨o, rfl⟩ : ∃ o, d1 = D.int o := by
      rcases List.mem_cons.mp hd1 with rfl | hd1
      · exact ⟨_, rfl⟩
      · exact ⟨_, List.mem_singleton.mp hd1⟩
    rw [pick_pr] at hJ
    ac_rfl
    rw [in_pr]
    have hJ : J (if (decide (h = p.1 ∨ h = p.2) && decide (o ≠ h)) = true then some (D.int o) else none) [Sl.frz (wD w), Sl.frz (.int h), .frz (prE p), .no] := hJ
    ac_rfl
    by_cases c1 : h = p.1 ∨ h = p.2
    · rw [decide_eq_true c1] at hJ ⊢
      ac_rfl
      by_cases c2 : o = h
      · rw [decide_eq_false (by simpa using c2)] at hJ
        rw [decide_eq_true c2]
        simpa using hJ
      · rw [decide_eq_true (by simpa using c2)] at hJ
        rw [decide_eq_false c2]
        simpa using hJ
    · rw [decide_eq_false c1] at hJ ⊢
      simpa using hJ
  · rw [flat_map_filter, sortF_ints]
    show ∃ d, some (D.lst (((gath w h).mergeSort leI).map D.int)) = some d ∧ k d
    rw [sort_gath ok]
    ac_rfl
    exact hk
theorem sortIF_eq {kvs : List (Int × D)} {m : List Int} (hl : kvs.length < 64) (hn : (kvs.map (·.1)).Nodup) (hm : Asc m) (h : ∀ z, z ∈ kvs.map (·.1) ↔ z ∈ m) : sortIF [.dI kvs] = some (.lst (m.map D.int)) := by
  show (if kvs.length < 64 then some (D.lst (((kvs.map (·.1)).mergeSort leI).map D.int)) else none) = _
  rw [if_pos hl, sort_asc hn hm h]
/-- the dict holds what has been found -/
structure Fnd (w : Wn) (kvs : List (Int × D)) (P : Int → Prop) : Prop where
  nd : (kvs.map (·.1)).Nodup
  mem : ∀ z, z ∈ kvs.map (·.1) ↔ P z
  rng : ∀ z : Int, z ∈ kvs.map (·.1) → 0 ≤ z ∧ z < (w.n : Int)
theorem Fnd.small {w : Wn} {kvs : List (Int × D)} {P : Int → Prop} (f : Fnd w kvs P) : kvs.length ≤ w.n := by
  have := keys_small f.nd f.rng
  rwa [List.length_map] at this
theorem Fnd.put {w : Wn} {kvs : List (Int × D)} {P P' : Int → Prop} {o : Int} {d : D} (f : Fnd w kvs P) (ho : 0 ≤ o ∧ o < w.n) (hP : ∀ z, P' z ↔ P z ∨ z = o) : Fnd w (asPut kvs o d) P' := by
  refine ⟨put_nodup f.nd, fun z => ?_, fun z hz => ?_⟩
  · rw [put_mem, f.mem, hP]
  · rcases (put_mem kvs o d z).mp hz with h | h
    · exact f.rng z h
    · rw [h]; exact ho
theorem Fnd.to {w : Wn} {kvs : List (Int × D)} {P P' : Int → Prop} (f : Fnd w kvs P) (hP : ∀ z, P' z ↔ P z) : Fnd w kvs P' := ⟨f.nd, fun z => by rw [f.mem, hP], f.rng⟩
theorem mem_take_succ {α : Type} {l : List α} {i : Nat} {a z : α} (h : l[i]? = some a) : z ∈ l.take (i + 1) ↔ z ∈ l.take i ∨ z = a := by
  rw [take_succ_get h, List.mem_append, List.mem_singleton]
theorem get_map {α : Type} {f : α → D} {l : List α} {i : Nat} {d : D} (h : (l.map f)[i]? = some d) : ∃ a, l[i]? = some a ∧ d = f a := by
  rw [List.getElem?_map] at h
  cases e : l[i]? with
  | none => rw [e] at h; cases h
  | some a => rw [e] at h; cases h; exact ⟨a, rfl, rfl⟩
theorem imms_ints : ∀ l : List Int, imms (l.map D.int) = true
  | [] => rfl
  | a :: l => imms_ints l
theorem eq_nil (l : List Int) : eqOp (tupI l) (.tup []) = some (.bl (decide (l = []))) := by
  unfold eqOp
  rw [if_pos ⟨pl_tupI _ _, rfl⟩]
  have : eqD (tupI l) (.tup []) = decide (l = []) := eqD_tupI l []
  rw [this]
theorem p_later (ds : List D) (k : D → Prop) (x : Ex → Prop) (h : fLater ds k x) : ds.length = 3 ∧ t_later fNextTo (endF0 false k x) (envF0 ["warren", "where", "lot", "found", "hole", "one"] ds) := by
  obtain ⟨w, S, L, rfl, ok, hS, hk⟩ := h
  refine ⟨rfl, ?_⟩
  have hhi := ok.hi
  unfold t_later
  ac_rfl
  refine for_go (S.map D.int) [Sl.frz (wD w), Sl.frz (tupI S), Sl.frz (tupI L), Sl.own (.dI []), .no, .no]
    (fun i env => ∃ kvs s4 s5, env = [Sl.frz (wD w), Sl.frz (tupI S), Sl.frz (tupI L), Sl.own (.dI kvs), s4, s5] ∧ Fnd w kvs fun z => ∃ h ∈ S.take i, h ∉ L ∧ z ∈ near w h)
    (fun K hK => by ac_rfl; exact hK) ⟨[], .no, .no, rfl, ⟨List.nodup_nil, fun z => by simp, fun z hz => nomatch hz⟩⟩ (fun i d env hd hI => ?_) (fun env hI => ?_)
  · obtain ⟨kvs, s4, s5, rfl, hF⟩ := hI
    obtain ⟨h, hh, rfl⟩ := get_map hd
    ac_rfl
    rw [notInOp_ints]
    ac_rfl
    by_cases hL : h ∈ L
    · have : L.contains h = true := by simpa using hL
      rw [this]
      ac_rfl
      refine hF.to fun z => ?_
      constructor
      · rintro ⟨g, hg, hgL, hz⟩
        rcases (mem_take_succ hh).mp hg with hg | rfl
        · exact ⟨g, hg, hgL, hz⟩
        · exact absurd hL hgL
      · rintro ⟨g, hg, q⟩
        exact ⟨g, (mem_take_succ hh).mpr (.inl hg), q⟩
    · have : L.contains h = false := by simpa using hL
      rw [this]
      ac_rfl
      refine for_go ((near w h).map D.int) [Sl.frz (wD w), Sl.frz (tupI S), Sl.frz (tupI L), Sl.own (.dI kvs), Sl.frz (.int h), s5]
        (fun j env => ∃ kvs s5, env = [Sl.frz (wD w), Sl.frz (tupI S), Sl.frz (tupI L), Sl.own (.dI kvs), Sl.frz (.int h), s5] ∧ Fnd w kvs fun z => (∃ h ∈ S.take i, h ∉ L ∧ z ∈ near w h) ∨ z ∈ (near w h).take j)
        (fun K hK => by ac_rfl; exact ⟨w, h, rfl, ok, by ac_rfl; exact hK⟩) ⟨kvs, s5, rfl, hF.to fun z => by simp⟩ (fun j d env hd hI => ?_) (fun env hI => ?_)
      · obtain ⟨kvs, s5, rfl, hF⟩ := hI
        obtain ⟨o, ho, rfl⟩ := get_map hd
        ac_rfl
        have hr := near_ok (List.mem_of_getElem? ho)
        refine ⟨rfl, ?_, _, rfl, _, rfl, hF.put hr fun z => ?_⟩
        · have := hF.small
          show kvs.length < 16777216
          omega
        · rw [mem_take_succ ho, or_assoc]
      · obtain ⟨kvs, s5, rfl, hF⟩ := hI
        refine ⟨kvs, _, _, rfl, hF.to fun z => ?_⟩
        rw [List.length_map, List.take_length]
        constructor
        · rintro ⟨g, hg, hgL, hz⟩
          rcases (mem_take_succ hh).mp hg with hg | rfl
          · exact .inl ⟨g, hg, hgL, hz⟩
          · exact .inr hz
        · rintro (⟨g, hg, q⟩ | hz)
          · exact ⟨g, (mem_take_succ hh).mpr (.inl hg), q⟩
          · exact ⟨h, (mem_take_succ hh).mpr (.inr rfl), hL, hz⟩
  · obtain ⟨kvs, s4, s5, rfl, hF⟩ := hI
    ac_rfl
    have := hF.small
    refine ⟨_, sortIF_eq (m := later w S L) (by omega) hF.nd (asc_later _ _ _) fun z => ?_, ?_⟩
    · rw [hF.mem, mem_later, List.length_map, List.take_length]
    · ac_rfl
      exact ⟨imms_ints _, hk⟩
theorem p_is_plan (ds : List D) (k : D → Prop) (x : Ex → Prop) (h : fIsPlan ds k x) : ds.length = 3 ∧ t_is_plan fGoodLot (endF0 false k x) (envF0 ["warren", "lookers", "thing", "lot"] ds) := by
  obtain ⟨w, m, d, rfl, hp, hk⟩ := h
  refine ⟨rfl, ?_⟩
  unfold t_is_plan
  ac_rfl
  cases d with
  | lst es =>
    obtain ⟨hp, hl, hes⟩ := hp
    ac_rfl
    by_cases h1 : (1023 : Int) < (es.length : Nat)
    · rw [decide_eq_true h1]
      ac_rfl
      have : isPlanD w.n m (.lst es) = false := by
        show (decide (es.length ≤ 1023) && lotsOf w.n m es) = _
        rw [decide_eq_false (by omega), Bool.false_and]
      rw [this] at hk
      exact hk
    · rw [decide_eq_false h1]
      ac_rfl
      refine lc_go es _ (fun e => some (.bl (goodLotD w.n e && (match e with | .tup ds => decide ((ds.length : Int) ≤ m) | _ => false)))) (fun K hK => by ac_rfl; exact hK) (by omega) (fun e he J hJ => ?_) ?_
      · ac_rfl
        refine ⟨w, e, rfl, plDs_iff.mp hp e he, hes e he, ?_⟩
        ac_rfl
        cases hg : goodLotD w.n e with
        | false =>
          rw [hg] at hJ
          ac_rfl
          exact hJ
        | true =>
          rw [hg] at hJ
          cases e with
          | tup ds => ac_rfl; simp only [Bool.true_and] at hJ; exact hJ
          | _ => cases hg
      · rw [fm_some, allF_map]
        ac_rfl
        have : isPlanD w.n m (.lst es) = lotsOf w.n m es := by
          show (decide (es.length ≤ 1023) && lotsOf w.n m es) = _
          rw [decide_eq_true (by omega), Bool.true_and]
        rw [this] at hk
        exact hk
  | int i => ac_rfl; exact hk
  | bl b => ac_rfl; exact hk
  | non => ac_rfl; exact hk
  | str _ => ac_rfl; exact hk
  | tup _ => ac_rfl; exact hk
  | dI _ => cases hp.1
  | dT _ => cases hp.1
  | scr _ => cases hp.1
  | obj _ _ => cases hp.1
theorem all_ints {a b : Int} : ∀ {ds : List D}, (ds.all fun e => isFromD e a b) = true → ∃ l : List Int, ds = l.map D.int
  | [], _ => ⟨[], rfl⟩
  | d :: ds, h => by
    rw [List.all_cons, Bool.and_eq_true] at h
    obtain ⟨l, hl⟩ := all_ints h.2
    cases d with
    | int i => exact ⟨i :: l, by rw [hl]; rfl⟩
    | _ => cases h.1
theorem lots_tups : ∀ {n : Nat} {m : Int} {es : List D}, plDs 40 es = true → lotsOf n m es = true → ∃ ls : List (List Int), es = ls.map tupI ∧ ∀ l ∈ ls, LotOk n l ∧ (l.length : Int) ≤ m
  | n, m, [], _, _ => ⟨[], rfl, fun l hl => nomatch hl⟩
  | n, m, e :: es, hp, h => by
    unfold lotsOf at h
    rw [List.all_cons, Bool.and_eq_true, Bool.and_eq_true] at h
    rw [plDs, Bool.and_eq_true] at hp
    obtain ⟨ls, e1, e2⟩ := lots_tups hp.2 h.2
    cases e with
    | tup ds =>
      have h1 := h.1.1
      have hb : (ds.all (fun e => isFromD e 0 ((n : Int) - 1)) && incrD ds) = true := h1
      rw [Bool.and_eq_true] at hb
      obtain ⟨l, rfl⟩ := all_ints hb.1
      refine ⟨l :: ls, by rw [e1]; rfl, fun z hz => ?_⟩
      rcases List.mem_cons.mp hz with rfl | hz
      · refine ⟨goodLot_ok.mp h1, ?_⟩
        have := h.1.2
        simpa using this
      · exact e2 z hz
    | _ => cases h.1.1
end K01

set_option Elab.async false
set_option linter.all false
set_option maxRecDepth 100000
set_option maxHeartbeats 4000000
namespace K01
open PySem PySem.Spec PyProof.Rows L2 FX MA
local macro_rules
  | `(tactic| and_intros) => `(tactic| simp (config := { failIfUnchanged := false }) only [sNext, sSeq, sRet, sRetN, sRetOwn, sAsg, sAsgO, sExpr, sIf, sBreak, sCont, sFreeze, sPar, sUnp, sSetL, sPutD, sAugI, sAugL,
  dVar, dC, dOp, dUn, daNil, daCons, dTup, dLst, dCall, dtB, dtTru, dtNot, dtAnd, dtOr, dAndV, dOrV, dNotV, dIf, dChain, dPur, dPurF, dtPur, dTake, dGetA, dGetB, dApp, dPop, dPopAt, dIns0, dItemO, dIsi, dSl, dpN, dpS, dSortSet, dMinP, dLstRg, dTupRg, dF0, dF1,
  diSeq, diRng1, diRng2, diZip, diEnum, diRev, dgName, dgTup, setAll, setM, endF0, endF1, envF0, envF1, wipeE, dtYes, fls, mineD, putE, Sl.put, Sl.seen, x_itT, x_itL, x_itS,
  List.map_cons, List.map_nil, List.length_cons, List.length_nil, List.getElem?_cons_zero, List.getElem?_cons_succ, List.set_cons_zero, List.set_cons_succ, List.replicate, List.append_assoc, List.cons_append, List.nil_append,
  Option.some.injEq, Sl.frz.injEq, Sl.own.injEq, Sl.par.injEq, D.int.injEq, D.bl.injEq, D.tup.injEq, D.lst.injEq, D.dI.injEq, D.dT.injEq, List.cons.injEq, exists_eq_left', exists_eq_left, exists_eq_right, exists_eq_right', exists_eq, exists_eq', Int.reducePow, Int.reduceNeg, Int.reduceLT, Int.reduceLE, Int.reduceMul, Int.reduceAdd, Int.reduceSub, Int.reduceToNat, Nat.reducePow, x_na10, or_true, true_or, and_self, x_set0, x_set1, x_ixN20, x_ixN21, and_true, true_and, Nat.reduceAdd, Nat.reduceSub, Nat.reduceLT, Nat.reduceLeDiff, Int.reduceEq, decide_true, decide_false, Int.cast_ofNat_Int,
  x_sub, x_add, x_addT, x_mul, x_div, x_mod, x_pow, x_le, x_gt, x_ge, x_lt, x_neg, x_catL, x_eq, x_ne, x_isN, x_notN, x_isB, x_notB, x_lenT, x_lenL, x_lenS, x_min, x_max, x_intI, x_intB, x_tupL, x_tupT, x_lstL, x_lstT, x_ixT0, x_ixT1, x_ixL0, x_ixL1, tru_non, tru_bl, tru_int, tru_tup, tru_lst, ty_non, ty_bl, ty_int, ty_str, ty_tup, ty_lst, x_slT, x_slL, and_assoc, exists_and_left, imm, imms,
  reduceIte, Bool.not_true, Bool.not_false, Bool.false_eq_true, Option.map_some, if_true, if_false, false_and, and_false, reduceCtorEq, exists_const, exists_false, false_or, or_false, Bool.true_and, Bool.and_true])
local macro_rules
  | `(tactic| subst_eqs) => `(tactic| simp (config := { failIfUnchanged := false }) only [x_w0, x_w1, x_ty, x_tyT, x_truT, x_lenI, x_itI, Option.some.injEq, exists_eq_left', isi1, isi2, isi3, isi4, isi5, isi6, isi7, isi8, isi9, isi10, isi11, isi12, isi13, isi14, isi15, isi16, isi17, isi18, isi19, isi20, isi21, isi22, isi23, isi24, Bool.not_true, Bool.not_false, if_true, if_false, Bool.false_eq_true, reduceIte])
local macro_rules
  | `(tactic| ac_rfl) => `(tactic| (try and_intros; try subst_eqs; try and_intros; try subst_eqs; try and_intros))
theorem bag_ix0 (x y : Int) : ixD (bagD x y) (.int 0) = some (.int x) := x_ixL0 _ _
theorem bag_ix1 (x y : Int) : ixD (bagD x y) (.int 1) = some (.int y) := x_ixL1 _ _ _
theorem ixN0 : ixN 2 0 = some 0 := by decide
theorem ixN1 : ixN 2 1 = some 1 := by decide
theorem p_law_take (c : D) (ds : List D) (k : D → D → Prop) (x : Ex → D → Prop) (h : fTake c ds k x) : ds.length = 1 ∧ t__law_take (endF1 k x) (envF1 ["bag", "count", "found"] c ds) := by
  obtain ⟨a, b, n, rfl, hb, rfl, hn, hk⟩ := h
  refine ⟨rfl, ?_⟩
  obtain ⟨b1, b2, b3⟩ := hb
  unfold t__law_take bagD
  ac_rfl
  by_cases h0 : 0 < a
  · rw [decide_eq_true h0]
    ac_rfl
    rw [if_pos (by omega)]
    ac_rfl
    rw [if_pos (by omega)]
    ac_rfl
    exact hk _ _ _ (Int.emod_nonneg _ (by omega)) (Int.emod_lt_of_pos _ (by omega)) ⟨Int.ediv_nonneg b1 (by omega), b2, b3⟩
  · rw [decide_eq_false h0]
    ac_rfl
    have hy1 : 0 ≤ b * 48271 % 2147483647 := Int.emod_nonneg _ (by decide)
    have hy2 : b * 48271 % 2147483647 < 2147483647 := Int.emod_lt_of_pos _ (by decide)
    generalize b * 48271 % 2147483647 = y at hy1 hy2
    rw [if_pos (by omega)]
    ac_rfl
    rw [if_pos (by omega)]
    ac_rfl
    exact hk _ _ _ (Int.emod_nonneg _ (by omega)) (Int.emod_lt_of_pos _ (by omega)) ⟨b1, hy1, hy2⟩
theorem p_law_of (c : D) (ds : List D) (k : D → D → Prop) (x : Ex → D → Prop) (h : fOf c ds k x) : ds.length = 1 ∧ t__law_of fTake (endF1 k x) (envF1 ["bag", "some"] c ds) := by
  obtain ⟨a, b, xs, rfl, hb, hds, hne, hl, hk⟩ := h
  have hl0 : 1 ≤ xs.length := by
    cases xs with
    | nil => exact absurd rfl hne
    | cons _ _ => simp
  have key : ∀ r : Int, 0 ≤ r → r < xs.length → ∃ d ∈ xs, atI xs r = some d := fun r h0 h1 => by
    rw [atI_nat' h0 h1]
    have : r.toNat < xs.length := by omega
    exact ⟨xs[r.toNat], List.getElem_mem this, List.getElem?_eq_getElem this⟩
  rcases hds with rfl | rfl
  · refine ⟨rfl, ?_⟩
    unfold t__law_of
    ac_rfl
    refine ⟨_, _, _, rfl, hb, rfl, ⟨by omega, by omega⟩, fun r x' y' h0 h1 hb' => ?_⟩
    obtain ⟨d, hd, e⟩ := key r h0 h1
    ac_rfl
    exact ⟨d, e, hk d x' y' hd hb'⟩
  · refine ⟨rfl, ?_⟩
    unfold t__law_of
    ac_rfl
    refine ⟨_, _, _, rfl, hb, rfl, ⟨by omega, by omega⟩, fun r x' y' h0 h1 hb' => ?_⟩
    obtain ⟨d, hd, e⟩ := key r h0 h1
    ac_rfl
    exact ⟨d, e, hk d x' y' hd hb'⟩
theorem p_law_bag (ds : List D) (k : D → Prop) (x : Ex → Prop) (h : fBag ds k x) : ds.length = 2 ∧ t__law_bag (endF0 true k x) (envF0 ["script", "k", "cell", "seed"] ds) := by
  obtain ⟨ns, j, rfl, hj, hk⟩ := h
  refine ⟨rfl, ?_⟩
  unfold t__law_bag
  ac_rfl
  have sd : ∀ z : Int, BagOk 0 (1 + z % 2147483645) := fun z => by
    have h1 : 0 ≤ z % 2147483645 := Int.emod_nonneg _ (by decide)
    have h2 : z % 2147483645 < 2147483645 := Int.emod_lt_of_pos _ (by decide)
    exact ⟨Int.le_refl _, by omega, by omega⟩
  by_cases hc : (j : Int) < ns.length
  · rw [decide_eq_true hc]
    ac_rfl
    have hj' : j < ns.length := by omega
    have e : ixD (.scr ns) (.int j) = some (.int ns[j]) := by
      show (atI ns (j : Int)).map D.int = _
      rw [atI_nat' (by omega) hc]
      simp [hj']
    rw [e]
    ac_rfl
    have c0 : 0 ≤ ns[j] % 1000000000000000000000000000000000000000000000000000000000000 := Int.emod_nonneg _ (by decide)
    generalize ns[j] % 1000000000000000000000000000000000000000000000000000000000000 = cell at c0
    rw [if_pos (by omega)]
    ac_rfl
    by_cases h18 : cell < 1000000000000000000
    · rw [decide_eq_true h18]
      ac_rfl
      exact hk _ _ (sd _)
    · rw [decide_eq_false h18]
      ac_rfl
      exact hk _ _ ⟨c0, (sd _).2⟩
  · rw [decide_eq_false hc]
    ac_rfl
    rw [if_pos (by omega)]
    ac_rfl
    exact hk _ _ (sd _)
theorem in_E (w : Wn) (a b : Int) : inOp (.tup [.int a, .int b]) (.tup (w.E.map prE)) = some (.bl (decide ((a, b) ∈ w.E))) := by
  have e : w.E.map prE = (w.E.map fun p => [p.1, p.2]).map tupI := by rw [List.map_map]; rfl
  rw [e]
  show inOp (tupI [a, b]) _ = _
  rw [inOp_tups]
  congr 2
  rw [Bool.eq_iff_iff, decide_eq_true_iff, List.contains_iff_mem, List.mem_map]
  constructor
  · rintro ⟨p, hp, e⟩
    injection e with e1 e2
    injection e2 with e2 _
    have : p = (a, b) := Prod.ext e1 e2
    rw [← this]; exact hp
  · intro h
    exact ⟨(a, b), h, rfl⟩
theorem fm_filter (f : Int → Bool) : ∀ l : List Int, ((l.map D.int).filterMap fun d => match d with | .int o => if f o = true then some (D.int o) else none | _ => none) = (l.filter f).map D.int
  | [] => rfl
  | a :: l => by
    rw [List.map_cons, List.filterMap_cons, List.filter_cons]
    by_cases h : f a = true
    · simp only [h, if_true]
      rw [fm_filter f l]; rfl
    · simp only [h, if_false, Bool.false_eq_true]
      rw [fm_filter f l]
theorem p_law_near (ds : List D) (k : D → Prop) (x : Ex → Prop) (h : fLawNear ds k x) : ds.length = 2 ∧ t__law_near (endF0 false k x) (envF0 ["warren", "hole", "one"] ds) := by
  obtain ⟨w, h, rfl, ok, hk⟩ := h
  refine ⟨rfl, ?_⟩
  have hhi := ok.hi
  unfold t__law_near
  ac_rfl
  refine lc_go ((upto w.n).map D.int) _ (fun d => match d with | .int o => if joins w o h = true then some (D.int o) else none | _ => none) (fun K hK => by
    ac_rfl
    refine ⟨by omega, by omega, ?_⟩
    rw [rangeL_upto]
    exact hK) (by rw [List.length_map, len_upto]; omega) (fun d hd J hJ => ?_) ?_
  · obtain ⟨o, ho, rfl⟩ := List.mem_map.mp hd
    ac_rfl
    rw [in_E]
    have hJ : J (if joins w o h = true then some (D.int o) else none) [Sl.frz (wD w), Sl.frz (.int h), .no] := hJ
    unfold joins at hJ
    ac_rfl
    by_cases c1 : (min o h, max o h) ∈ w.E
    · rw [decide_eq_true c1] at hJ ⊢
      ac_rfl
      by_cases c2 : o = h
      · rw [decide_eq_false (by simpa using c2)] at hJ
        rw [decide_eq_true c2]
        simpa using hJ
      · rw [decide_eq_true (by simpa using c2)] at hJ
        rw [decide_eq_false c2]
        simpa using hJ
    · rw [decide_eq_false c1] at hJ ⊢
      simpa using hJ
  · rw [fm_filter]
    exact hk
theorem p_law_later (ds : List D) (k : D → Prop) (x : Ex → Prop) (h : fLawLater ds k x) : ds.length = 3 ∧ t__law_later fLawNear (endF0 false k x) (envF0 ["warren", "where", "lot", "found", "hole", "one"] ds) := by
  obtain ⟨w, S, L, rfl, ok, hS, hk⟩ := h
  refine ⟨rfl, ?_⟩
  have hhi := ok.hi
  unfold t__law_later
  ac_rfl
  refine for_go (S.map D.int) [Sl.frz (wD w), Sl.frz (tupI S), Sl.frz (tupI L), Sl.own (.dI []), .no, .no]
    (fun i env => ∃ kvs s4 s5, env = [Sl.frz (wD w), Sl.frz (tupI S), Sl.frz (tupI L), Sl.own (.dI kvs), s4, s5] ∧ Fnd w kvs fun z => ∃ h ∈ S.take i, h ∉ L ∧ z ∈ near w h)
    (fun K hK => by ac_rfl; exact hK) ⟨[], .no, .no, rfl, ⟨List.nodup_nil, fun z => by simp, fun z hz => nomatch hz⟩⟩ (fun i d env hd hI => ?_) (fun env hI => ?_)
  · obtain ⟨kvs, s4, s5, rfl, hF⟩ := hI
    obtain ⟨h, hh, rfl⟩ := get_map hd
    ac_rfl
    refine for_go ((near w h).map D.int) [Sl.frz (wD w), Sl.frz (tupI S), Sl.frz (tupI L), Sl.own (.dI kvs), Sl.frz (.int h), s5]
      (fun j env => ∃ kvs s5, env = [Sl.frz (wD w), Sl.frz (tupI S), Sl.frz (tupI L), Sl.own (.dI kvs), Sl.frz (.int h), s5] ∧ Fnd w kvs fun z => (∃ h ∈ S.take i, h ∉ L ∧ z ∈ near w h) ∨ (h ∉ L ∧ z ∈ (near w h).take j))
      (fun K hK => by ac_rfl; exact ⟨w, h, rfl, ok, by ac_rfl; exact hK⟩) ⟨kvs, s5, rfl, hF.to fun z => by simp⟩ (fun j d env hd hI => ?_) (fun env hI => ?_)
    · obtain ⟨kvs, s5, rfl, hF⟩ := hI
      obtain ⟨o, ho, rfl⟩ := get_map hd
      ac_rfl
      rw [notInOp_ints]
      ac_rfl
      have hr := near_ok (List.mem_of_getElem? ho)
      by_cases hL : h ∈ L
      · have : L.contains h = true := by simpa using hL
        rw [this]
        ac_rfl
        exact hF.to fun z => by simp [hL]
      · have : L.contains h = false := by simpa using hL
        rw [this]
        ac_rfl
        refine ⟨rfl, ?_, _, rfl, _, rfl, hF.put hr fun z => ?_⟩
        · have := hF.small
          show kvs.length < 16777216
          omega
        · rw [mem_take_succ ho]
          simp [hL, or_assoc]
    · obtain ⟨kvs, s5, rfl, hF⟩ := hI
      refine ⟨kvs, _, _, rfl, hF.to fun z => ?_⟩
      rw [List.length_map, List.take_length]
      constructor
      · rintro ⟨g, hg, hgL, hz⟩
        rcases (mem_take_succ hh).mp hg with hg | rfl
        · exact .inl ⟨g, hg, hgL, hz⟩
        · exact .inr ⟨hgL, hz⟩
      · rintro (⟨g, hg, q⟩ | ⟨hL, hz⟩)
        · exact ⟨g, (mem_take_succ hh).mpr (.inl hg), q⟩
        · exact ⟨h, (mem_take_succ hh).mpr (.inr rfl), hL, hz⟩
  · obtain ⟨kvs, s4, s5, rfl, hF⟩ := hI
    ac_rfl
    have := hF.small
    refine ⟨_, sortIF_eq (m := later w S L) (by omega) hF.nd (asc_later _ _ _) fun z => ?_, ?_⟩
    · rw [hF.mem, mem_later, List.length_map, List.take_length]
    · ac_rfl
      exact ⟨imms_ints _, hk⟩
end K01

set_option Elab.async false
set_option linter.all false
set_option maxRecDepth 100000
set_option maxHeartbeats 4000000
namespace K01
open PySem PySem.Spec PyProof.Rows L2 FX MA
local macro_rules
  | `(tactic| and_intros) => `(tactic| simp (config := { failIfUnchanged := false }) only [sNext, sSeq, sRet, sRetN, sRetOwn, sAsg, sAsgO, sExpr, sIf, sBreak, sCont, sFreeze, sPar, sUnp, sSetL, sPutD, sAugI, sAugL,
  dVar, dC, dOp, dUn, daNil, daCons, dTup, dLst, dCall, dtB, dtTru, dtNot, dtAnd, dtOr, dAndV, dOrV, dNotV, dIf, dChain, dPur, dPurF, dtPur, dTake, dGetA, dGetB, dApp, dPop, dPopAt, dIns0, dItemO, dIsi, dSl, dpN, dpS, dSortSet, dMinP, dLstRg, dTupRg, dF0, dF1,
  diSeq, diRng1, diRng2, diZip, diEnum, diRev, dgName, dgTup, setAll, setM, endF0, endF1, envF0, envF1, wipeE, dtYes, fls, mineD, putE, Sl.put, Sl.seen, x_itT, x_itL, x_itS,
  List.map_cons, List.map_nil, List.length_cons, List.length_nil, List.getElem?_cons_zero, List.getElem?_cons_succ, List.set_cons_zero, List.set_cons_succ, List.replicate, List.append_assoc, List.cons_append, List.nil_append,
  Option.some.injEq, Sl.frz.injEq, Sl.own.injEq, Sl.par.injEq, D.int.injEq, D.bl.injEq, D.tup.injEq, D.lst.injEq, D.dI.injEq, D.dT.injEq, List.cons.injEq, exists_eq_left', exists_eq_left, exists_eq_right, exists_eq_right', exists_eq, exists_eq', Int.reducePow, Int.reduceNeg, Int.reduceLT, Int.reduceLE, Int.reduceMul, Int.reduceAdd, Int.reduceSub, Int.reduceToNat, Nat.reducePow, x_na10, or_true, true_or, and_self, x_set0, x_set1, x_ixN20, x_ixN21, and_true, true_and, Nat.reduceAdd, Nat.reduceSub, Nat.reduceLT, Nat.reduceLeDiff, Int.reduceEq, decide_true, decide_false, Int.cast_ofNat_Int,
  x_sub, x_add, x_addT, x_mul, x_div, x_mod, x_pow, x_le, x_gt, x_ge, x_lt, x_neg, x_catL, x_eq, x_ne, x_isN, x_notN, x_isB, x_notB, x_lenT, x_lenL, x_lenS, x_min, x_max, x_intI, x_intB, x_tupL, x_tupT, x_lstL, x_lstT, x_ixT0, x_ixT1, x_ixL0, x_ixL1, tru_non, tru_bl, tru_int, tru_tup, tru_lst, ty_non, ty_bl, ty_int, ty_str, ty_tup, ty_lst, x_slT, x_slL, and_assoc, exists_and_left, imm, imms,
  reduceIte, Bool.not_true, Bool.not_false, Bool.false_eq_true, Option.map_some, if_true, if_false, false_and, and_false, reduceCtorEq, exists_const, exists_false, false_or, or_false, Bool.true_and, Bool.and_true])
local macro_rules
  | `(tactic| subst_eqs) => `(tactic| simp (config := { failIfUnchanged := false }) only [x_w0, x_w1, x_ty, x_tyT, x_truT, x_lenI, x_itI, Option.some.injEq, exists_eq_left', isi1, isi2, isi3, isi4, isi5, isi6, isi7, isi8, isi9, isi10, isi11, isi12, isi13, isi14, isi15, isi16, isi17, isi18, isi19, isi20, isi21, isi22, isi23, isi24, Bool.not_true, Bool.not_false, if_true, if_false, Bool.false_eq_true, reduceIte])
local macro_rules
  | `(tactic| ac_rfl) => `(tactic| (try and_intros; try subst_eqs; try and_intros; try subst_eqs; try and_intros))
/-- a dict of passages below n -/
structure PK (n : Int) (kvs : List (List Int × D)) : Prop where
  nd : (kvs.map (·.1)).Nodup
  pr : ∀ z : List Int, z ∈ kvs.map (·.1) → ∃ a b : Int, z = [a, b] ∧ 0 ≤ a ∧ a < b ∧ b < n
def cd (z : List Int) : Int := z.headD 0 * 10 + z.tail.headD 0
theorem PK.small {n : Int} {kvs : List (List Int × D)} (h : PK n kvs) (hn : n ≤ 10) : kvs.length ≤ 100 := by
  have h1 : ((kvs.map (·.1)).map cd).Nodup := by
    refine List.pairwise_map.mpr (h.nd.imp_of_mem fun {x y} hx hy hne e => hne ?_)
    obtain ⟨a, b, rfl, q⟩ := h.pr x hx
    obtain ⟨c, d, rfl, r⟩ := h.pr y hy
    have e : a * 10 + b = c * 10 + d := e
    have : a = c := by omega
    have : b = d := by omega
    subst_vars; rfl
  have h2 := keys_small (n := 100) h1 fun z hz => by
    obtain ⟨x, hx, rfl⟩ := List.mem_map.mp hz
    obtain ⟨a, b, rfl, q⟩ := h.pr x hx
    show 0 ≤ a * 10 + b ∧ a * 10 + b < 100
    omega
  rwa [List.length_map, List.length_map] at h2
theorem PK.put {n a b : Int} {d : D} {kvs : List (List Int × D)} (h : PK n kvs) (h1 : 0 ≤ a) (h2 : a < b) (h3 : b < n) : PK n (asPut kvs [a, b] d) := by
  refine ⟨put_nodup h.nd, fun z hz => ?_⟩
  rcases (put_mem _ _ _ _).mp hz with q | q
  · exact h.pr z q
  · exact ⟨a, b, q, h1, h2, h3⟩
theorem PK.nil (n : Int) : PK n [] := ⟨List.nodup_nil, fun z hz => nomatch hz⟩
theorem put_pr (kvs : List (List Int × D)) (a b : Int) (d : D) : dputD (.dT kvs) (.tup [.int a, .int b]) d = some (.dT (asPut kvs [a, b] d)) := rfl
theorem eq_nilL (ls : List (List Int)) : eqOp (.lst (ls.map tupI)) (.lst []) = some (.bl (decide (ls = []))) := by
  unfold eqOp
  rw [if_pos ⟨plDs_tups (n := 58) ls, rfl⟩]
  have : eqD (.lst (ls.map tupI)) (.lst []) = decide (ls = []) := eqDs_tups ls []
  rw [this]
theorem fm_filterT (f : List Int → Bool) : ∀ l : List (List Int), ((l.map tupI).filterMap fun d => match intsOfT d with | some o => if f o = true then some (tupI o) else none | _ => none) = (l.filter f).map tupI
  | [] => rfl
  | a :: l => by
    have e : intsOfT (tupI a) = some a := ints_self a
    rw [List.map_cons, List.filterMap_cons, List.filter_cons]
    by_cases h : f a = true
    · simp only [h, if_true, e]
      rw [fm_filterT f l]; rfl
    · simp only [h, if_false, Bool.false_eq_true, e]
      rw [fm_filterT f l]
theorem imms_tups : ∀ l : List (List Int), imms (l.map tupI) = true
  | [] => rfl
  | a :: l => by
    show (imms (a.map D.int) && imms (l.map tupI)) = true
    rw [imms_ints, imms_tups l]; rfl
def toPr (z : List Int) : Int × Int := (z.headD 0, z.tail.headD 0)
theorem warren_of {n : Nat} (hn : 2 ≤ n) (hn2 : n ≤ 10) {kvs : List (List Int × D)} (h : PK n kvs) (hc : ∀ i : Int, 0 ≤ i → i < n → ∃ z ∈ kvs.map (·.1), i ∈ z) :
    let w : Wn := ⟨n, ((kvs.map (·.1)).mergeSort leR).map toPr⟩
    WOk w ∧ D.tup [.int n, .tup (((kvs.map (·.1)).mergeSort leR).map tupI)] = wD w := by
  have hm : ∀ z, z ∈ (kvs.map (·.1)).mergeSort leR ↔ z ∈ kvs.map (·.1) := fun z => List.mem_mergeSort
  have hs := sortR_sorted (kvs.map (·.1))
  have hd : ((kvs.map (·.1)).mergeSort leR).Nodup := (List.mergeSort_perm _ _).nodup_iff.mpr h.nd
  refine ⟨⟨hn, hn2, ?_, ?_, ?_⟩, ?_⟩
  · show (((kvs.map (·.1)).mergeSort leR).map toPr).Pairwise ltE
    rw [List.pairwise_map]
    refine (List.pairwise_and_iff.mpr ⟨hs, hd⟩).imp_of_mem fun {x y} hx hy hh => ?_
    obtain ⟨a, b, rfl, q⟩ := h.pr x ((hm x).mp hx)
    obtain ⟨c, d, rfl, r⟩ := h.pr y ((hm y).mp hy)
    show a < c ∨ (a = c ∧ b < d)
    obtain ⟨h1, h2⟩ := hh
    have h1 : ¬ ([c, d] : List Int) < [a, b] := List.not_lt.mpr h1
    rw [List.cons_lt_cons_iff, List.cons_lt_cons_iff] at h1
    have h3 : ¬ (a = c ∧ b = d) := fun e => h2 (by rw [e.1, e.2])
    simp only [List.not_lt_nil, and_false, or_false] at h1
    omega
  · intro p hp
    obtain ⟨z, hz, rfl⟩ := List.mem_map.mp hp
    obtain ⟨a, b, rfl, q⟩ := h.pr z ((hm z).mp hz)
    exact q
  · intro i h0 h1
    obtain ⟨z, hz, hi⟩ := hc i h0 h1
    obtain ⟨a, b, rfl, q⟩ := h.pr z hz
    refine ⟨_, List.mem_map.mpr ⟨_, (hm _).mpr hz, rfl⟩, ?_⟩
    rcases List.mem_cons.mp hi with e | hi
    · exact .inl e
    · exact .inr (List.mem_singleton.mp hi)
  · unfold wD
    simp only []
    congr 3
    congr 1
    rw [List.map_map]
    refine List.map_congr_left fun z hz => ?_
    obtain ⟨a, b, rfl, q⟩ := h.pr z ((hm z).mp hz)
    rfl
theorem rangeL2 (a b : Int) : ∀ {i : Nat} {d : D}, (rangeL a b)[i]? = some d → d = .int (a + i) ∧ a + i < b := by
  intro i d h
  unfold rangeL at h
  rw [List.getElem?_map] at h
  by_cases hi : i < (b - a).toNat
  · rw [List.getElem?_range hi] at h
    cases h
    exact ⟨rfl, by omega⟩
  · rw [List.getElem?_eq_none (by simpa using hi)] at h
    cases h
theorem rangeL_len (a b : Int) : (rangeL a b).length = (b - a).toNat := by simp [rangeL]
theorem p_law_warren (c : D) (ds : List D) (k : D → D → Prop) (x : Ex → D → Prop) (h : fLawWarren c ds k x) : ds.length = 1 ∧ t__law_warren fTake fOf (endF1 k x) (envF1 ["bag", "most", "holes", "found", "hole", "near", "turn", "one", "other", "pair"] c ds) := by
  obtain ⟨x0, y0, most, rfl, hb, rfl, hm, hk⟩ := h
  refine ⟨rfl, ?_⟩
  unfold t__law_warren
  ac_rfl
  refine ⟨_, _, _, rfl, hb, rfl, ⟨by omega, by omega⟩, fun r x1 y1 hr0 hr1 hb1 => ?_⟩
  ac_rfl
  obtain ⟨n, rfl⟩ : ∃ n : Nat, r = (n : Int) - 2 := ⟨(r + 2).toNat, by omega⟩
  rw [show (2 : Int) + ((n : Int) - 2) = n by omega]
  have hn2 : 2 ≤ n := by omega
  have hn10 : n ≤ 10 := by omega
  -- the first loop
  refine for_go (rangeL 1 n) [Sl.par (bagD x1 y1), Sl.frz (.int most), Sl.frz (.int n), Sl.own (.dT []), .no, .no, .no, .no, .no, .no]
    (fun i env => ∃ x y kvs s4 s5, env = [Sl.par (bagD x y), Sl.frz (.int most), Sl.frz (.int n), Sl.own (.dT kvs), s4, s5, .no, .no, .no, .no] ∧ BagOk x y ∧ PK n kvs)
    (fun K hK => by ac_rfl; exact ⟨by omega, by omega, hK⟩) ⟨x1, y1, [], _, _, rfl, hb1, PK.nil _⟩ (fun i d env hd hI => ?_) (fun env hI => ?_)
  · obtain ⟨x, y, kvs, s4, s5, rfl, hb, hp⟩ := hI
    obtain ⟨rfl, hi⟩ := rangeL2 _ _ hd
    ac_rfl
    refine ⟨_, _, _, rfl, hb, rfl, ⟨by omega, by omega⟩, fun r x y hr0 hr1 hb => ?_⟩
    ac_rfl
    refine ⟨_, _, _, rfl, hb, .inl rfl, by simp, by simp, fun d x y hd hb => ?_⟩
    ac_rfl
    refine ⟨_, _, _, rfl, hb, rfl, ⟨by omega, by omega⟩, fun r2 x y hr20 hr21 hb => ?_⟩
    ac_rfl
    have hs := hp.small (by omega)
    obtain ⟨a, rfl, ha⟩ : ∃ a : Int, d = .int a ∧ 0 ≤ a ∧ a < 1 + i := by
      rcases List.mem_cons.mp hd with rfl | hd
      · exact ⟨_, rfl, by omega, by omega⟩
      · rw [List.mem_singleton.mp hd]; exact ⟨_, rfl, hr0, hr1⟩
    by_cases h0 : 0 < r2
    · rw [decide_eq_true h0]
      ac_rfl
      refine ⟨rfl, by show kvs.length < 16777216; omega, ?_⟩
      rw [put_pr]
      ac_rfl
      exact ⟨_, _, rfl, hb, hp.put ha.1 ha.2 hi⟩
    · rw [decide_eq_false h0]
      ac_rfl
      exact ⟨_, _, rfl, hb, hp⟩
  · obtain ⟨x, y, kvs, s4, s5, rfl, hb, hp⟩ := hI
    ac_rfl
    refine for_any (fun items e => ∃ t x y, items = rangeL 0 t ∧ t < 1000 ∧ e = [Sl.par (bagD x y), Sl.frz (.int most), Sl.frz (.int n), Sl.own (.dT kvs), s4, s5, .no, .no, .no, .no] ∧ BagOk x y)
      (fun K hK => ?_) (fun items e hP => ?_)
    · ac_rfl
      refine ⟨_, _, _, rfl, hb, .inl rfl, by simp, by simp, fun d x y hd hb => ?_⟩
      ac_rfl
      obtain ⟨t, rfl, h0, h1⟩ : ∃ t : Int, d = .int t ∧ 0 ≤ t ∧ t < 1000 := by
        simp only [List.mem_cons, List.not_mem_nil, or_false] at hd
        rcases hd with rfl | rfl | rfl | rfl | rfl | rfl <;> exact ⟨_, rfl, by decide, by decide⟩
      refine ⟨t, rfl, by omega, by omega, ?_⟩
      exact hK _ _ ⟨t, x, y, rfl, h1, rfl, hb⟩
    · obtain ⟨t, x, y, rfl, ht, rfl, hb⟩ := hP
      refine ⟨fun i env => ∃ x y kvs s6 s7 s8, env = [Sl.par (bagD x y), Sl.frz (.int most), Sl.frz (.int n), Sl.own (.dT kvs), s4, s5, s6, s7, s8, .no] ∧ BagOk x y ∧ PK n kvs,
        ⟨x, y, kvs, _, _, _, rfl, hb, hp⟩, fun i d env hd hI => ?_, fun env hI => ?_⟩
      · obtain ⟨x, y, kvs, s6, s7, s8, rfl, hb, hp⟩ := hI
        ac_rfl
        refine ⟨_, _, _, rfl, hb, rfl, ⟨by omega, by omega⟩, fun r x y hr0 hr1 hb => ?_⟩
        ac_rfl
        refine ⟨_, _, _, rfl, hb, rfl, ⟨by omega, by omega⟩, fun r2 x y hr20 hr21 hb => ?_⟩
        ac_rfl
        have hs := hp.small (by omega)
        by_cases h0 : r = r2
        · rw [decide_eq_true h0]
          ac_rfl
          exact ⟨_, _, rfl, hb, hp⟩
        · rw [decide_eq_false h0]
          ac_rfl
          refine ⟨rfl, by show kvs.length < 16777216; omega, ?_⟩
          rw [put_pr]
          ac_rfl
          exact ⟨_, _, rfl, hb, hp.put (by omega) (by omega) (by omega)⟩
      · obtain ⟨x, y, kvs, s6, s7, s8, rfl, hb, hp⟩ := hI
        ac_rfl
        -- the third loop
        refine for_go (rangeL 0 n) [Sl.par (bagD x y), Sl.frz (.int most), Sl.frz (.int n), Sl.own (.dT kvs), s4, s5, s6, s7, s8, .no]
          (fun i env => ∃ kvs s4 s8 s9, env = [Sl.par (bagD x y), Sl.frz (.int most), Sl.frz (.int n), Sl.own (.dT kvs), s4, s5, s6, s7, s8, s9] ∧ PK n kvs ∧ ∀ h : Int, 0 ≤ h → h < (i : Int) → ∃ z ∈ kvs.map (·.1), h ∈ z)
          (fun K hK => by ac_rfl; exact ⟨by omega, by omega, hK⟩) ⟨kvs, _, _, _, rfl, hp, fun h h0 h1 => by omega⟩ (fun i d env hd hI => ?_) (fun env hI => ?_)
        · obtain ⟨kvs, s4, s8, s9, rfl, hp, hcov⟩ := hI
          obtain ⟨rfl, hi⟩ := rangeL2 _ _ hd
          have hs := hp.small (by omega)
          ac_rfl
          unfold dLcK
          refine ⟨⟨_, rfl, rfl⟩, lc_go ((kvs.map (·.1)).map tupI) _ (fun d => match intsOfT d with | some o => if o.contains (0 + (i : Int)) = true then some (tupI o) else none | _ => none) (fun K hK => ⟨_, _, rfl, rfl, by rw [List.map_map] at hK; exact hK⟩) (by rw [List.length_map, List.length_map]; omega) (fun d hd J hJ => ?_) ?_⟩
          · obtain ⟨z, hz, rfl⟩ := List.mem_map.mp hd
            have e : intsOfT (tupI z) = some z := ints_self z
            simp only [e] at hJ
            ac_rfl
            rw [inOp_ints]
            ac_rfl
            cases hc : z.contains (0 + (i : Int)) with
            | true => rw [hc] at hJ; rw [if_pos rfl] at hJ; rw [if_pos rfl]; exact hJ
            | false => rw [hc] at hJ; rw [if_neg (by decide)] at hJ; rw [if_neg (by decide)]; exact hJ
          · rw [fm_filterT]
            ac_rfl
            rw [eq_nilL]
            ac_rfl
            by_cases hf : (kvs.map (·.1)).filter (fun o => o.contains (0 + (i : Int))) = []
            · rw [decide_eq_true hf]
              ac_rfl
              rw [if_pos (by omega)]
              ac_rfl
              have hm0 : 0 ≤ (0 + (i : Int) + 1) % n := Int.emod_nonneg _ (by omega)
              have hm1 : (0 + (i : Int) + 1) % n < n := Int.emod_lt_of_pos _ (by omega)
              have hne : 0 + (i : Int) ≠ (0 + (i : Int) + 1) % n := by
                by_cases c : (i : Int) + 1 < n
                · rw [Int.emod_eq_of_lt (by omega) (by omega)]; omega
                · have : (0 + (i : Int) + 1) = n := by omega
                  rw [this, Int.emod_self]; omega
              refine ⟨rfl, by show kvs.length < 16777216; omega, ?_⟩
              rw [put_pr]
              ac_rfl
              refine ⟨hp.put (by omega) (by omega) (by omega), fun h h0 h1 => ?_⟩
              by_cases c : h < (i : Int)
              · obtain ⟨z, hz, hh⟩ := hcov h h0 c
                exact ⟨z, (put_mem _ _ _ _).mpr (.inl hz), hh⟩
              · refine ⟨_, (put_mem _ _ _ _).mpr (.inr rfl), ?_⟩
                have : h = 0 + (i : Int) := by omega
                rw [this]
                rcases Int.le_total (0 + (i : Int)) ((0 + (i : Int) + 1) % n) with q | q
                · rw [Int.min_eq_left q]; exact List.mem_cons_self ..
                · rw [Int.max_eq_left q]; exact List.mem_cons_of_mem _ (List.mem_cons_self ..)
            · rw [decide_eq_false hf]
              ac_rfl
              refine ⟨hp, fun h h0 h1 => ?_⟩
              by_cases c : h < (i : Int)
              · exact hcov h h0 c
              · have : h = 0 + (i : Int) := by omega
                obtain ⟨z, hz⟩ := List.exists_mem_of_ne_nil _ hf
                obtain ⟨h2, h3⟩ := List.mem_filter.mp hz
                exact ⟨z, h2, by rw [this]; exact List.contains_iff_mem.mp h3⟩
        · obtain ⟨kvs, s4, s8, s9, rfl, hp, hcov⟩ := hI
          ac_rfl
          rw [rangeL_len] at hcov
          obtain ⟨w1, w2⟩ := warren_of hn2 hn10 hp fun h h0 h1 => hcov h h0 (by omega)
          refine ⟨_, rfl, ?_⟩
          ac_rfl
          refine ⟨imms_tups _, ?_⟩
          have := hk _ x y w1 (by show (n : Int) ≤ most; omega) hb
          rw [← w2] at this
          exact this
end K01

set_option Elab.async false
set_option linter.all false
set_option maxRecDepth 100000
/-! MathW: lots, walks that go by -/
namespace MA
open FX
/-! ### all lots -/
theorem grow_mem {m : Int} {f : List (List Int)} {h : Int} {l : List Int} : l ∈ grow m f h ↔ l ∈ f ∨ ∃ l0 ∈ f, (l0.length : Int) < m ∧ l = l0 ++ [h] := by
  unfold grow
  rw [List.mem_append, List.mem_map]
  constructor
  · rintro (q | ⟨l0, hl, rfl⟩)
    · exact .inl q
    · obtain ⟨h1, h2⟩ := List.mem_filter.mp hl
      exact .inr ⟨l0, h1, of_decide_eq_true h2, rfl⟩
  · rintro (q | ⟨l0, h1, h2, rfl⟩)
    · exact .inl q
    · exact .inr ⟨l0, List.mem_filter.mpr ⟨h1, decide_eq_true h2⟩, rfl⟩
theorem asc_snoc {l : List Int} {h : Int} : Asc (l ++ [h]) ↔ Asc l ∧ ∀ z ∈ l, z < h := by
  unfold Asc
  rw [List.pairwise_append]
  constructor
  · rintro ⟨h1, _, h3⟩
    exact ⟨h1, fun z hz => h3 z hz h (List.mem_singleton.mpr rfl)⟩
  · rintro ⟨h1, h2⟩
    refine ⟨h1, List.pairwise_singleton _ _, fun z hz y hy => ?_⟩
    rw [List.mem_singleton.mp hy]
    exact h2 z hz
/-- what the laws' lots hold, behind holes 0 .. i-1 -/
theorem raw_mem (m : Int) : ∀ (i : Nat) (l : List Int), l ∈ (upto i).foldl (grow m) [[]] ↔ LotOk i l ∧ ((l.length : Int) ≤ m ∨ l = [])
  | 0, l => by
    show l ∈ [[]] ↔ _
    rw [List.mem_singleton]
    constructor
    · rintro rfl
      exact ⟨⟨List.Pairwise.nil, fun z hz => nomatch hz⟩, .inr rfl⟩
    · rintro ⟨h, _⟩
      cases l with
      | nil => rfl
      | cons a r => have := h.2 a (List.mem_cons_self ..); omega
  | i + 1, l => by
    have e : upto (i + 1) = upto i ++ [(i : Int)] := by
      unfold upto; rw [List.range_succ, List.map_append]; rfl
    rw [e, List.foldl_append]
    show l ∈ grow m _ _ ↔ _
    rw [grow_mem, raw_mem m i]
    constructor
    · rintro (⟨h1, h2⟩ | ⟨l0, hl0, h2, rfl⟩)
      · exact ⟨⟨h1.1, fun z hz => by have := h1.2 z hz; omega⟩, h2⟩
      · rw [raw_mem m i] at hl0
        obtain ⟨h1, _⟩ := hl0
        refine ⟨⟨asc_snoc.mpr ⟨h1.1, fun z hz => (h1.2 z hz).2⟩, fun z hz => ?_⟩, .inl ?_⟩
        · rcases List.mem_append.mp hz with hz | hz
          · have := h1.2 z hz; omega
          · rw [List.mem_singleton.mp hz]; omega
        · rw [List.length_append, List.length_singleton]; omega
    · rintro ⟨h1, h2⟩
      by_cases hi : (i : Int) ∈ l
      · right
        obtain ⟨l0, x, rfl⟩ : ∃ l0 x, l = l0 ++ [x] := by
          cases hl : l.reverse with
          | nil => rw [List.reverse_eq_nil_iff] at hl; subst hl; cases hi
          | cons x r => exact ⟨r.reverse, x, by rw [← List.reverse_reverse l, hl, List.reverse_cons]⟩
        have hs := asc_snoc.mp h1.1
        have hx : x = (i : Int) := by
          rcases List.mem_append.mp hi with q | q
          · have a1 := hs.2 _ q
            have a2 := (h1.2 x (List.mem_append_right _ (List.mem_singleton.mpr rfl))).2
            omega
          · exact (List.mem_singleton.mp q).symm
        subst hx
        refine ⟨l0, (raw_mem m i l0).mpr ⟨⟨hs.1, fun z hz => ⟨(h1.2 z (List.mem_append_left _ hz)).1, hs.2 z hz⟩⟩, ?_⟩, ?_, rfl⟩
        · rcases h2 with h2 | h2
          · rw [List.length_append, List.length_singleton] at h2; left; omega
          · simp at h2
        · rcases h2 with h2 | h2
          · rw [List.length_append, List.length_singleton] at h2; omega
          · simp at h2
      · left
        refine ⟨⟨h1.1, fun z hz => ?_⟩, h2⟩
        have := h1.2 z hz
        have : z ≠ (i : Int) := fun e => hi (e ▸ hz)
        omega
theorem raw_len (m : Int) : ∀ i : Nat, ((upto i).foldl (grow m) [[]]).length ≤ 2 ^ i
  | 0 => Nat.le_refl _
  | i + 1 => by
    have e : upto (i + 1) = upto i ++ [(i : Int)] := by
      unfold upto; rw [List.range_succ, List.map_append]; rfl
    rw [e, List.foldl_append]
    show (grow m _ _).length ≤ _
    have h1 := raw_len m i
    generalize (upto i).foldl (grow m) [[]] = f at h1
    unfold grow
    rw [List.length_append, List.length_map]
    have h2 := List.length_filter_le (fun l => decide ((l.length : Int) < m)) f
    rw [Nat.pow_succ]
    omega
theorem lots_mem {n : Nat} {m : Int} {l : List Int} : l ∈ lots n m ↔ LotOk n l ∧ ((l.length : Int) ≤ m ∨ l = []) := by
  unfold lots lotsRaw
  rw [List.mem_mergeSort, raw_mem]
theorem lots_len {n : Nat} (hn : n ≤ 10) (m : Int) : (lots n m).length ≤ 1024 := by
  unfold lots lotsRaw
  rw [List.length_mergeSort]
  refine Nat.le_trans (raw_len m n) ?_
  have : 2 ^ n ≤ 2 ^ 10 := Nat.pow_le_pow_right (by decide) hn
  simpa using this
theorem lots_ne (n : Nat) (m : Int) : lots n m ≠ [] := fun e => by
  have : ([] : List Int) ∈ lots n m := lots_mem.mpr ⟨⟨List.Pairwise.nil, fun z hz => nomatch hz⟩, .inr rfl⟩
  rw [e] at this
  cases this
theorem full_ok (n : Nat) : LotOk n (upto n) := ⟨asc_upto n, fun z hz => mem_upto.mp hz⟩

/-! ### walks -/
def cnt (w : Wn) : List (List Int) → Int → Int
  | [], _ => 1
  | L :: rest, h => if L.contains h = true then 0 else if rest = [] then 1 else ((near w h).map (cnt w rest)).sum
def allW (w : Wn) : List Int → List (List Int) → List (List Int)
  | _, [] => [[]]
  | S, L :: rest => ((S.filter fun h => !L.contains h).map fun h => (allW w (near w h) rest).map (h :: ·)).flatten
def howMany (w : Wn) (S : List Int) (plan : List (List Int)) : Int := if plan = [] then (if S = [] then 0 else 1) else (S.map (cnt w plan)).sum
def walkGo (w : Wn) : List Int → List (List Int) → Option (List Int)
  | _, [] => some []
  | S, L :: rest => match S.filter fun h => decide (0 < cnt w (L :: rest) h) with
    | [] => none
    | g :: _ => (walkGo w (near w g) rest).map (g :: ·)
def walkM (w : Wn) (S : List Int) (plan : List (List Int)) : Option (List Int) := (walkGo w S plan).bind fun l => if S = [] then none else some l
theorem cnt_nonneg (w : Wn) : ∀ (P : List (List Int)) (h : Int), 0 ≤ cnt w P h
  | [], _ => by rw [cnt]; decide
  | L :: rest, h => by
    rw [cnt]
    split
    · decide
    · split
      · decide
      · have : ∀ l : List Int, 0 ≤ (l.map (cnt w rest)).sum := fun l => by
          induction l with
          | nil => exact Int.le_refl _
          | cons a l ih => rw [List.map_cons, List.sum_cons]; have := cnt_nonneg w rest a; omega
        exact this _
theorem len_flat (w : Wn) (f : Int → List (List Int)) : ∀ l : List Int, ((l.map f).flatten.length : Int) = (l.map fun h => ((f h).length : Int)).sum
  | [] => rfl
  | a :: l => by rw [List.map_cons, List.flatten_cons, List.length_append, List.map_cons, List.sum_cons, ← len_flat w f l]; omega
theorem sum_filter (p : Int → Bool) (f g : Int → Int) (h1 : ∀ a, p a = true → f a = g a) (h2 : ∀ a, p a = false → g a = 0) : ∀ l : List Int, ((l.filter p).map f).sum = (l.map g).sum
  | [] => rfl
  | a :: l => by
    rw [List.filter_cons, List.map_cons, List.sum_cons, ← sum_filter p f g h1 h2 l]
    cases hp : p a with
    | true => simp only [if_true]; rw [List.map_cons, List.sum_cons, h1 a hp]
    | false => simp only [Bool.false_eq_true, if_false]; rw [h2 a hp]; omega
theorem len_allW (w : Wn) : ∀ (P : List (List Int)) (S : List Int), P ≠ [] → ((allW w S P).length : Int) = (S.map (cnt w P)).sum
  | [], _, h => absurd rfl h
  | L :: rest, S, _ => by
    rw [allW, len_flat w]
    refine sum_filter _ _ _ (fun h hp => ?_) (fun h hp => ?_) S
    · rw [Bool.not_eq_true'] at hp
      rw [List.length_map, cnt, hp]
      by_cases hr : rest = []
      · subst hr; rfl
      · rw [if_neg (by decide), if_neg hr, len_allW w rest _ hr]
    · rw [cnt, if_pos (by simpa using hp)]
theorem howMany_len (w : Wn) {S : List Int} {P : List (List Int)} (hP : P ≠ []) : howMany w S P = ((allW w S P).length : Int) := by
  unfold howMany
  rw [if_neg hP, len_allW w P S hP]
theorem cnt_pos (w : Wn) {L : List Int} {rest : List (List Int)} {h : Int} : 0 < cnt w (L :: rest) h ↔ L.contains h = false ∧ allW w (near w h) rest ≠ [] := by
  rw [cnt]
  cases hc : L.contains h with
  | true => simp
  | false =>
    rw [if_neg (by decide)]
    by_cases hr : rest = []
    · subst hr; rw [if_pos rfl, allW]; simp
    · rw [if_neg hr, ← len_allW w rest _ hr]
      constructor
      · intro h1
        refine ⟨rfl, fun e => ?_⟩
        rw [e] at h1
        exact absurd h1 (by decide)
      · rintro ⟨_, h1⟩
        have := List.length_pos_iff.mpr h1
        omega
theorem walkGo_head (w : Wn) : ∀ (P : List (List Int)) (S : List Int), walkGo w S P = (allW w S P).head?
  | [], _ => rfl
  | L :: rest, S => by
    rw [walkGo, allW]
    have e : (S.filter fun h => decide (0 < cnt w (L :: rest) h)) = (S.filter fun h => !L.contains h).filter fun h => !(allW w (near w h) rest).isEmpty := by
      rw [List.filter_filter]
      refine List.filter_congr fun h _ => ?_
      rw [Bool.eq_iff_iff, decide_eq_true_iff, cnt_pos]
      simp [List.isEmpty_iff, and_comm]
    rw [e]
    generalize (S.filter fun h => !L.contains h) = T
    induction T with
    | nil => rfl
    | cons a T ih =>
      rw [List.filter_cons, List.map_cons, List.flatten_cons]
      cases hA : allW w (near w a) rest with
      | nil =>
        simp only [List.isEmpty_nil, Bool.not_true, Bool.false_eq_true, if_false, List.map_nil, List.nil_append]
        exact ih
      | cons z zs =>
        simp only [List.isEmpty_cons, Bool.not_false, if_true, List.map_cons, List.cons_append, List.head?_cons]
        rw [walkGo_head w rest, hA]; rfl
theorem allW_nil_S (w : Wn) {P : List (List Int)} (hP : P ≠ []) : allW w [] P = [] := by
  cases P with
  | nil => exact absurd rfl hP
  | cons L r => rfl
theorem walkM_head (w : Wn) {S : List Int} {P : List (List Int)} (hP : P ≠ []) : walkM w S P = (allW w S P).head? := by
  unfold walkM
  rw [walkGo_head]
  by_cases hS : S = []
  · subst hS
    rw [allW_nil_S w hP]; rfl
  · simp only [hS, if_false]
    cases (allW w S P).head? <;> rfl
/-- a walk steps from hole to hole and is not met -/
def WalkOk (w : Wn) : List Int → List (List Int) → List Int → Prop
  | _, [], l => l = []
  | S, L :: rest, l => ∃ h r, l = h :: r ∧ h ∈ S ∧ h ∉ L ∧ WalkOk w (near w h) rest r
theorem allW_ok (w : Wn) : ∀ (P : List (List Int)) (S : List Int) (l : List Int), l ∈ allW w S P → WalkOk w S P l
  | [], _, l, h => by rw [allW] at h; exact List.mem_singleton.mp h
  | L :: rest, S, l, h => by
    rw [allW, List.mem_flatten] at h
    obtain ⟨m, hm, hl⟩ := h
    obtain ⟨g, hg, rfl⟩ := List.mem_map.mp hm
    obtain ⟨r, hr, rfl⟩ := List.mem_map.mp hl
    obtain ⟨h1, h2⟩ := List.mem_filter.mp hg
    exact ⟨g, r, rfl, h1, by simpa using h2, allW_ok w rest _ r hr⟩
theorem WalkOk.len {w : Wn} : ∀ {P : List (List Int)} {S l : List Int}, WalkOk w S P l → l.length = P.length
  | [], _, _, h => by rw [show _ = [] from h]; rfl
  | L :: rest, S, _, ⟨h, r, e, _, _, q⟩ => by rw [e, List.length_cons, q.len, List.length_cons]
theorem WalkOk.at {w : Wn} : ∀ {P : List (List Int)} {S l : List Int} {i : Nat} {a : Int} {L : List Int}, WalkOk w S P l → l[i]? = some a → P[i]? = some L → a ∉ L ∧ (i = 0 → a ∈ S)
  | [], _, _, _, _, _, _, _, h2 => by simp at h2
  | M :: rest, S, _, 0, a, L, ⟨h, r, e, hS, hL, q⟩, h1, h2 => by
    subst e
    simp at h1 h2
    subst h1; subst h2
    exact ⟨hL, fun _ => hS⟩
  | M :: rest, S, _, i + 1, a, L, ⟨h, r, e, hS, hL, q⟩, h1, h2 => by
    subst e
    have := q.at (i := i) (by simpa using h1) (by simpa using h2)
    exact ⟨this.1, fun z => by omega⟩
theorem WalkOk.step {w : Wn} : ∀ {P : List (List Int)} {S l : List Int} {i : Nat} {a b : Int}, WalkOk w S P l → l[i]? = some a → l[i + 1]? = some b → b ∈ near w a
  | [], _, _, _, _, _, h, h1, _ => by rw [show _ = [] from h] at h1; simp at h1
  | M :: rest, S, _, 0, a, b, ⟨h, r, e, hS, hL, q⟩, h1, h2 => by
    subst e
    simp at h1 h2
    subst h1
    cases rest with
    | nil => rw [show r = [] from q] at h2; simp at h2
    | cons L2 rest =>
      obtain ⟨g, r2, rfl, hg, _⟩ := q
      simp at h2
      subst h2; exact hg
  | M :: rest, S, _, i + 1, a, b, ⟨h, r, e, hS, hL, q⟩, h1, h2 => by
    subst e
    exact q.step (i := i) (by simpa using h1) (by simpa using h2)
/-! the walks as the law grows them -/
def nextS (w : Wn) (S : List Int) (row : List Int) : List Int := match row.getLast? with
  | some h => near w h
  | none => S
def growW (w : Wn) (S : List Int) (rows : List (List Int)) (L : List Int) : List (List Int) := (rows.map fun row => ((nextS w S row).filter fun h => !L.contains h).map fun h => row ++ [h]).flatten
theorem nextS_cons (w : Wn) (S : List Int) (h : Int) (row : List Int) : nextS w S (h :: row) = nextS w (near w h) row := by
  unfold nextS
  cases row with
  | nil => rfl
  | cons a r => rw [List.getLast?_cons_cons]; cases hl : (a :: r).getLast? with
    | none => simp at hl
    | some x => rfl
theorem allW_snoc (w : Wn) : ∀ (P : List (List Int)) (S : List Int) (L : List Int), allW w S (P ++ [L]) = growW w S (allW w S P) L
  | [], S, L => by
    show ((S.filter fun h => !L.contains h).map fun h => (allW w (near w h) []).map (h :: ·)).flatten = _
    unfold growW
    rw [allW]
    simp only [List.map_cons, List.map_nil, List.flatten_cons, List.flatten_nil, List.append_nil]
    show _ = ((S.filter fun h => !L.contains h).map fun h => [] ++ [h])
    generalize (S.filter fun h => !L.contains h) = T
    induction T with
    | nil => rfl
    | cons a T ih => rw [List.map_cons, List.flatten_cons, ih]; rfl
  | M :: P, S, L => by
    rw [List.cons_append, allW, allW]
    unfold growW
    generalize (S.filter fun h => !M.contains h) = T
    induction T with
    | nil => rfl
    | cons a T ih =>
      rw [List.map_cons, List.flatten_cons, ih, List.map_cons, List.flatten_cons, List.map_append, List.flatten_append]
      congr 1
      rw [allW_snoc w P]
      unfold growW
      rw [List.map_flatten, List.map_map, List.map_map]
      congr 1
      refine List.map_congr_left fun row _ => ?_
      show List.map (a :: ·) (List.map _ _) = _
      rw [List.map_map]
      show _ = List.map (fun h => (a :: row) ++ [h]) (List.filter _ (nextS w S (a :: row)))
      rw [nextS_cons]
      rfl
/-! none just where it is surely met -/
theorem fold_union (w : Wn) : ∀ (P : List (List Int)) (S : List Int) (z : Int), z ∈ P.foldl (later w) S ↔ ∃ h ∈ S, z ∈ P.foldl (later w) [h]
  | [], S, z => by simp
  | L :: P, S, z => by
    rw [List.foldl_cons, fold_union w P]
    constructor
    · rintro ⟨g, hg, hz⟩
      obtain ⟨h, hS, hL, hgn⟩ := mem_later.mp hg
      refine ⟨h, hS, ?_⟩
      rw [List.foldl_cons, fold_union w P]
      exact ⟨g, mem_later.mpr ⟨h, List.mem_singleton.mpr rfl, hL, hgn⟩, hz⟩
    · rintro ⟨h, hS, hz⟩
      rw [List.foldl_cons, fold_union w P] at hz
      obtain ⟨g, hg, hz⟩ := hz
      obtain ⟨h', hS', hL, hgn⟩ := mem_later.mp hg
      rw [List.mem_singleton.mp hS'] at hL hgn
      exact ⟨g, mem_later.mpr ⟨h, hS, hL, hgn⟩, hz⟩
theorem near_ne {w : Wn} (ok : WOk w) {h : Int} (h0 : 0 ≤ h) (h1 : h < w.n) : near w h ≠ [] := fun e => by
  obtain ⟨p, hp, hc⟩ := ok.cov h h0 h1
  have r := ok.rng p hp
  have : ∀ o : Int, 0 ≤ o → o < (w.n : Int) → joins w o h = true → False := fun o a b c => by
    have : o ∈ near w h := mem_near.mpr ⟨⟨a, b⟩, c⟩
    rw [e] at this; cases this
  rcases hc with rfl | rfl
  · exact this p.2 (by omega) (by omega) ((joins_iff ok).mpr (.inr hp))
  · exact this p.1 (by omega) (by omega) ((joins_iff ok).mpr (.inl hp))
theorem met_iff {w : Wn} (ok : WOk w) : ∀ (P : List (List Int)) (S : List Int), P ≠ [] → (∀ z ∈ S, 0 ≤ z ∧ z < w.n) → (P.foldl (later w) S = [] ↔ allW w S P = [])
  | [], _, h, _ => absurd rfl h
  | L :: rest, S, _, hS => by
    have e1 : allW w S (L :: rest) = [] ↔ ∀ h ∈ S, h ∉ L → allW w (near w h) rest = [] := by
      rw [allW, List.flatten_eq_nil_iff]
      constructor
      · intro q h hh hL
        have := q _ (List.mem_map.mpr ⟨h, List.mem_filter.mpr ⟨hh, by simpa using hL⟩, rfl⟩)
        exact List.map_eq_nil_iff.mp this
      · intro q l hl
        obtain ⟨h, hh, rfl⟩ := List.mem_map.mp hl
        obtain ⟨h1, h2⟩ := List.mem_filter.mp hh
        rw [q h h1 (by simpa using h2)]; rfl
    rw [e1, List.foldl_cons]
    by_cases hr : rest = []
    · subst hr
      show later w S L = [] ↔ _
      constructor
      · intro q h hh hL
        exfalso
        have hn := near_ne ok (hS h hh).1 (hS h hh).2
        obtain ⟨o, ho⟩ := List.exists_mem_of_ne_nil _ hn
        have : o ∈ later w S L := mem_later.mpr ⟨h, hh, hL, ho⟩
        rw [q] at this; cases this
      · intro q
        refine List.eq_nil_iff_forall_not_mem.mpr fun o ho => ?_
        obtain ⟨h, hh, hL, _⟩ := mem_later.mp ho
        have := q h hh hL
        rw [allW] at this
        cases this
    · constructor
      · intro q h hh hL
        refine (met_iff ok rest (near w h) hr fun z hz => near_ok hz).mp ?_
        refine List.eq_nil_iff_forall_not_mem.mpr fun o ho => ?_
        obtain ⟨g, hg, hz⟩ := (fold_union w rest _ o).mp ho
        have : o ∈ rest.foldl (later w) (later w S L) := (fold_union w rest _ o).mpr ⟨g, mem_later.mpr ⟨h, hh, hL, hg⟩, hz⟩
        rw [q] at this; cases this
      · intro q
        refine List.eq_nil_iff_forall_not_mem.mpr fun o ho => ?_
        obtain ⟨g, hg, hz⟩ := (fold_union w rest _ o).mp ho
        obtain ⟨h, hh, hL, hgn⟩ := mem_later.mp hg
        have := (met_iff ok rest (near w h) hr fun z hz => near_ok hz).mpr (q h hh hL)
        have : o ∈ rest.foldl (later w) (near w h) := (fold_union w rest _ o).mpr ⟨g, hgn, hz⟩
        simp_all
end MA

set_option Elab.async false
set_option linter.all false
set_option maxRecDepth 100000
set_option maxHeartbeats 4000000
namespace K01
open PySem PySem.Spec PyProof.Rows L2 FX MA
theorem sortF_tups (ls : List (List Int)) (h : ls ≠ []) : sortF [.lst (ls.map tupI)] = some (.lst ((ls.mergeSort leR).map tupI)) := by
  show (match intsOf (ls.map tupI) with
    | some ns => some (D.lst ((List.mergeSort ns leI).map D.int))
    | none => (tupsOf (ls.map tupI)).map fun ls => D.lst ((List.mergeSort ls leR).map tupI)) = _
  rw [tups_self]
  cases ls with
  | nil => exact absurd rfl h
  | cons a r => rfl
theorem fm_growT (m : Int) (h : Int) : ∀ l : List (List Int), ((l.map tupI).filterMap fun d => match intsOfT d with | some o => if decide ((o.length : Int) < m) = true then some (tupI (o ++ [h])) else none | _ => none) = ((l.filter fun o => decide ((o.length : Int) < m)).map fun o => o ++ [h]).map tupI
  | [] => rfl
  | a :: l => by
    have e : intsOfT (tupI a) = some a := ints_self a
    rw [List.map_cons, List.filterMap_cons, List.filter_cons]
    by_cases q : decide ((a.length : Int) < m) = true
    · simp only [q, if_true, e]
      rw [fm_growT m h l]; rfl
    · simp only [q, if_false, Bool.false_eq_true, e]
      rw [fm_growT m h l]
theorem addA_snoc (l : List Int) (h : Int) (hl : l.length ≤ 1000) : addA (tupI l) (.tup [.int h]) = some (tupI (l ++ [h])) := by
  show (if (l.map D.int).length + [D.int h].length ≤ 16777216 then some (D.tup (l.map D.int ++ [D.int h])) else none) = _
  rw [if_pos (by rw [List.length_map]; simp; omega)]
  unfold tupI
  rw [List.map_append]; rfl
theorem upto_succ (i : Nat) : upto (i + 1) = upto i ++ [(i : Int)] := by
  unfold upto; rw [List.range_succ, List.map_append]; rfl
theorem pow10 {i n : Nat} (h : i ≤ n) (hn : n ≤ 10) : 2 ^ i ≤ 1024 := by
  have : 2 ^ i ≤ 2 ^ 10 := Nat.pow_le_pow_right (by decide) (by omega)
  simpa using this
def PlanOk (n : Nat) (m : Int) (P : List (List Int)) : Prop := P.length ≤ 1000 ∧ ∀ L ∈ P, LotOk n L ∧ (L.length : Int) ≤ m
theorem plan_in {n : Nat} (hn : n ≤ 10) {m : Int} {P : List (List Int)} (h : PlanOk n m P) : PlanIn (.lst (P.map tupI)) ∧ isPlanD n m (.lst (P.map tupI)) = true := by
  refine ⟨⟨plDs_tups (n := 39) P, ?_, ?_⟩, ?_⟩
  · show (P.map tupI).length ≤ 100000
    rw [List.length_map]
    have := h.1
    omega
  · intro e he
    obtain ⟨L, hL, rfl⟩ := List.mem_map.mp he
    show (L.map D.int).length ≤ 1000
    rw [List.length_map]
    have := len_lot (h.2 L hL).1
    omega
  · show (decide ((P.map tupI).length ≤ 1023) && lotsOf n m (P.map tupI)) = true
    rw [List.length_map, decide_eq_true (by have := h.1; omega), Bool.true_and]
    unfold lotsOf
    rw [List.all_map, List.all_eq_true]
    intro L hL
    show (goodLotD n (tupI L) && decide (((L.map D.int).length : Int) ≤ m)) = true
    rw [goodLot_ok.mpr (h.2 L hL).1, Bool.true_and, List.length_map]
    exact decide_eq_true (h.2 L hL).2
theorem ne_nil (l : List Int) : neOp (tupI l) (.tup []) = some (.bl (!decide (l = []))) := by
  unfold neOp
  rw [if_pos ⟨pl_tupI _ _, rfl⟩]
  have : eqD (tupI l) (.tup []) = decide (l = []) := eqD_tupI l []
  rw [this]
theorem tru_lots (P : List (List Int)) : truD (.lst (P.map tupI)) = some (!decide (P = [])) := by
  cases P <;> rfl
def pickI (p : Int → Bool) : D → Option D
  | .int o => if p o = true then some (D.int o) else none
  | _ => none
theorem pickI_int (p : Int → Bool) (o : Int) : pickI p (.int o) = if p o = true then some (D.int o) else none := rfl
theorem fm_pick (p : Int → Bool) : ∀ l : List Int, (l.map D.int).filterMap (pickI p) = (l.filter p).map D.int
  | [] => rfl
  | a :: l => by
    rw [List.map_cons, List.filterMap_cons, List.filter_cons, pickI_int]
    by_cases h : p a = true
    · simp only [h, if_true]
      rw [fm_pick p l]; rfl
    · simp only [h, if_false, Bool.false_eq_true]
      rw [fm_pick p l]
theorem ix_last {l : List Int} {h : Int} (hl : l.getLast? = some h) : ixD (tupI l) (.int (-1)) = some (.int h) := by
  have hne : l ≠ [] := fun e => by rw [e] at hl; cases hl
  have hpos : 0 < l.length := List.length_pos_iff.mpr hne
  show atI (l.map D.int) (-1) = _
  unfold atI ixN
  rw [if_neg (by omega), List.length_map, if_pos (by omega)]
  show (l.map D.int)[(-1 + (l.length : Int)).toNat]? = _
  rw [List.getElem?_map]
  rw [List.getLast?_eq_getElem?] at hl
  have : (-1 + (l.length : Int)).toNat = l.length - 1 := by omega
  rw [this, hl]; rfl
theorem lots_last {n : Nat} {m : Int} : ∃ l, l ∈ lots n m ∧ ixD (.lst ((lots n m).map tupI)) (.int (-1)) = some (tupI l) := by
  have hne := lots_ne n m
  have hpos : 0 < (lots n m).length := List.length_pos_iff.mpr hne
  refine ⟨(lots n m).getLast hne, List.getLast_mem hne, ?_⟩
  show atI ((lots n m).map tupI) (-1) = _
  unfold atI ixN
  rw [if_neg (by omega), List.length_map, if_pos (by omega)]
  show ((lots n m).map tupI)[(-1 + ((lots n m).length : Int)).toNat]? = _
  have : (-1 + ((lots n m).length : Int)).toNat = (lots n m).length - 1 := by omega
  rw [List.getElem?_map, this, ← List.getLast?_eq_getElem?, List.getLast?_eq_some_getLast hne]; rfl
theorem x_neB (a b : Bool) : neOp (.bl a) (.bl b) = some (.bl (!decide (a = b))) := by
  unfold neOp
  rw [if_pos ⟨pl_bl _ _, pl_bl _ _⟩]
  have : eqD (.bl a) (.bl b) = decide (a = b) := by rw [eqD]; cases a <;> cases b <;> rfl
  rw [this]
theorem ne_nilL (ls : List (List Int)) : neOp (.lst (ls.map tupI)) (.lst []) = some (.bl (!decide (ls = []))) := by
  unfold neOp
  rw [if_pos ⟨plDs_tups (n := 58) ls, rfl⟩]
  have : eqD (.lst (ls.map tupI)) (.lst []) = decide (ls = []) := eqDs_tups ls []
  rw [this]
theorem ne_nn : neOp (.lst []) (.lst []) = some (.bl false) := ne_nilL []
theorem eq_nn : eqOp (.lst []) (.lst []) = some (.bl true) := eq_nilL []
theorem ne_cn (l : List Int) (ls : List (List Int)) : neOp (.lst (tupI l :: ls.map tupI)) (.lst []) = some (.bl true) := ne_nilL (l :: ls)
theorem eq_cn (l : List Int) (ls : List (List Int)) : eqOp (.lst (tupI l :: ls.map tupI)) (.lst []) = some (.bl false) := eq_nilL (l :: ls)
theorem ne_ints (a b : List Int) : neOp (.lst (a.map .int)) (.lst (b.map .int)) = some (.bl (!decide (a = b))) := by
  unfold neOp
  rw [if_pos ⟨plDs_ints (n := 59) a, plDs_ints (n := 59) b⟩]
  have : eqD (.lst (a.map D.int)) (.lst (b.map D.int)) = decide (a = b) := eqDs_ints a b
  rw [this]
theorem eq_ints (a b : List Int) : eqOp (.lst (a.map .int)) (.lst (b.map .int)) = some (.bl (decide (a = b))) := by
  unfold eqOp
  rw [if_pos ⟨plDs_ints (n := 59) a, plDs_ints (n := 59) b⟩]
  have : eqD (.lst (a.map D.int)) (.lst (b.map D.int)) = decide (a = b) := eqDs_ints a b
  rw [this]
theorem mem_rangeL {a b : Int} {d : D} (h : d ∈ rangeL a b) : ∃ j, d = .int j ∧ a ≤ j ∧ j < b := by
  obtain ⟨i, hi, e⟩ := List.getElem_of_mem h
  have h2 : (rangeL a b)[i]? = some d := by rw [List.getElem?_eq_getElem hi, e]
  obtain ⟨e1, e2⟩ := rangeL2 a b h2
  exact ⟨_, e1, by omega, e2⟩
theorem ix_at {α : Type} (f : α → D) {l : List α} {j : Int} (h0 : 0 ≤ j) (h1 : j < l.length) : ∃ a, l[j.toNat]? = some a ∧ ixD (.lst (l.map f)) (.int j) = some (f a) := by
  have h : j.toNat < l.length := by omega
  refine ⟨l[j.toNat], List.getElem?_eq_getElem h, ?_⟩
  show atI (l.map f) j = _
  rw [atI_nat' h0 (by rw [List.length_map]; exact h1), List.getElem?_map, List.getElem?_eq_getElem h]; rfl
theorem fm_none {α β : Type} : ∀ l : List α, l.filterMap (fun _ => (none : Option β)) = []
  | [] => rfl
  | a :: l => by rw [List.filterMap_cons, fm_none l]
theorem notInOp_intsL (x : Int) (l : List Int) : notInOp (.int x) (.lst (l.map .int)) = some (.bl (!l.contains x)) := by
  have h := notInOp_ints x l
  unfold notInOp tupI at h
  unfold notInOp
  exact h
end K01

set_option Elab.async false
set_option linter.all false
set_option maxRecDepth 100000
/-! SpecJ: things of any kind; what is a warren among them -/
namespace MA
open FX
mutual
/-- plain, no tuple and no list in it longer than m -/
def thg (m : Nat) : D → Bool
  | .tup ds => decide (ds.length ≤ m) && thgs m ds
  | .lst ds => decide (ds.length ≤ m) && thgs m ds
  | .non => true
  | .bl _ => true
  | .int _ => true
  | .str _ => true
  | _ => false
def thgs (m : Nat) : List D → Bool
  | [] => true
  | d :: ds => thg m d && thgs m ds
end
theorem thgs_iff {m : Nat} : ∀ {ds : List D}, thgs m ds = true ↔ ∀ d ∈ ds, thg m d = true
  | [] => by simp [thgs]
  | d :: ds => by rw [thgs, Bool.and_eq_true, thgs_iff (ds := ds)]; simp
mutual
theorem thg_mono {m m' : Nat} (h : m ≤ m') : ∀ d : D, thg m d = true → thg m' d = true
  | .tup ds, q => by
    rw [thg, Bool.and_eq_true, decide_eq_true_iff] at q ⊢
    exact ⟨Nat.le_trans q.1 h, thgs_mono h ds q.2⟩
  | .lst ds, q => by
    rw [thg, Bool.and_eq_true, decide_eq_true_iff] at q ⊢
    exact ⟨Nat.le_trans q.1 h, thgs_mono h ds q.2⟩
  | .non, _ => rfl
  | .bl _, _ => rfl
  | .int _, _ => rfl
  | .str _, _ => rfl
  | .dI _, q => by simp [thg] at q
  | .dT _, q => by simp [thg] at q
  | .scr _, q => by simp [thg] at q
  | .obj _ _, q => by simp [thg] at q
theorem thgs_mono {m m' : Nat} (h : m ≤ m') : ∀ ds : List D, thgs m ds = true → thgs m' ds = true
  | [], _ => rfl
  | d :: ds, q => by
    rw [thgs, Bool.and_eq_true] at q ⊢
    exact ⟨thg_mono h d q.1, thgs_mono h ds q.2⟩
end
def isPassD (n : Int) (d : D) : Bool := match d with
  | .tup [.int a, .int b] => decide (0 ≤ a) && decide (a < b) && decide (b ≤ n - 1)
  | _ => false
def toPrD (d : D) : Int × Int := match d with
  | .tup [.int a, .int b] => (a, b)
  | _ => (0, 0)
def incE (E : List (Int × Int)) : Bool := (E.zip E.tail).all fun q => decide ([q.1.1, q.1.2] < [q.2.1, q.2.2])
def covE (n : Nat) (E : List (Int × Int)) : Bool := (upto n).all fun h => E.any fun p => decide (h = p.1 ∨ h = p.2)
def isWarrenD (d : D) : Bool := match d with
  | .tup [.int n, .tup es] => decide (2 ≤ n) && decide (n ≤ 10) && es.all (isPassD n) && incE (es.map toPrD) && covE n.toNat (es.map toPrD)
  | _ => false
theorem pass_form {n : Int} {d : D} (h : isPassD n d = true) : d = prE (toPrD d) ∧ 0 ≤ (toPrD d).1 ∧ (toPrD d).1 < (toPrD d).2 ∧ (toPrD d).2 ≤ n - 1 := by
  unfold isPassD at h
  split at h
  · rename_i a b
    simp only [Bool.and_eq_true, decide_eq_true_iff] at h
    exact ⟨rfl, h.1.1, h.1.2, h.2⟩
  · cases h
theorem pass_all {n : Int} {es : List D} (h : es.all (isPassD n) = true) : es = (es.map toPrD).map prE ∧ ∀ p ∈ es.map toPrD, 0 ≤ p.1 ∧ p.1 < p.2 ∧ p.2 ≤ n - 1 := by
  rw [List.all_eq_true] at h
  refine ⟨?_, fun p hp => ?_⟩
  · rw [List.map_map]
    conv => lhs; rw [← List.map_id es]
    exact List.map_congr_left fun d hd => (pass_form (h d hd)).1
  · obtain ⟨d, hd, rfl⟩ := List.mem_map.mp hp
    exact (pass_form (h d hd)).2
theorem inc_asc {w : Wn} (h : w.E.Pairwise ltE) : incE w.E = true := by
  unfold incE
  rw [List.all_eq_true]
  rintro ⟨p, q⟩ hm
  have : ltE p q := by
    generalize w.E = E at h hm
    induction E with
    | nil => simp at hm
    | cons a r ih =>
      cases r with
      | nil => simp at hm
      | cons b r =>
        rw [List.tail_cons, List.zip_cons_cons] at hm
        rcases List.mem_cons.mp hm with e | hm
        · cases e
          exact (List.pairwise_cons.mp h).1 _ (List.mem_cons_self ..)
        · exact ih (List.pairwise_cons.mp h).2 hm
  unfold ltE at this
  rw [decide_eq_true_iff]
  show List.Lex _ _ _
  rcases this with c | ⟨c1, c2⟩
  · exact List.Lex.rel c
  · dsimp only at c1 c2 ⊢
    rw [c1]
    exact List.Lex.cons (List.Lex.rel c2)
theorem ok_warren {w : Wn} (ok : WOk w) : isWarrenD (wD w) = true := by
  have e1 : (w.E.map prE).map toPrD = w.E := by rw [List.map_map]; exact (List.map_congr_left fun p _ => rfl).trans (List.map_id w.E)
  have e2 : (w.E.map prE).all (isPassD w.n) = true := by
    rw [List.all_eq_true]
    intro d hd
    obtain ⟨p, hp, rfl⟩ := List.mem_map.mp hd
    have r := ok.rng p hp
    show (decide (0 ≤ p.1) && decide (p.1 < p.2) && decide (p.2 ≤ (w.n : Int) - 1)) = true
    rw [decide_eq_true r.1, decide_eq_true r.2.1, decide_eq_true (by omega)]; rfl
  have e3 : covE w.n w.E = true := by
    unfold covE
    rw [List.all_eq_true]
    intro h hh
    obtain ⟨h0, h1⟩ := mem_upto.mp hh
    obtain ⟨p, hp, e⟩ := ok.cov h h0 h1
    exact List.any_eq_true.mpr ⟨p, hp, decide_eq_true e⟩
  show (decide ((2 : Int) ≤ w.n) && decide ((w.n : Int) ≤ 10) && (w.E.map prE).all (isPassD w.n) && incE ((w.E.map prE).map toPrD) && covE (w.n : Int).toNat ((w.E.map prE).map toPrD)) = true
  have hlo := ok.lo
  have hhi := ok.hi
  rw [e1, e2, inc_asc ok.asc, Int.toNat_natCast, e3, decide_eq_true (by omega), decide_eq_true (by omega)]
  rfl
/-! what is promised -/
def fIsPassageG : F0 := fun ds k _ => ∃ (n : Int) (d : D), ds = [.int n, d] ∧ plD 40 d = true ∧ k (.bl (isPassD n d))
def fIsWarrenG : F0 := fun ds k _ => ∃ d : D, ds = [d] ∧ plD 38 d = true ∧ thg 1000 d = true ∧ k (.bl (isWarrenD d))
def fLookWarrenX : F0 := fun ds k x => ∃ d : D, ds = [d] ∧ plD 38 d = true ∧ thg 1000 d = true ∧ (isWarrenD d = true → k .non) ∧ (isWarrenD d = false → x ("NoWarren", none))
def fLookLookersX : F0 := fun ds k x => ∃ d : D, ds = [d] ∧ plD 38 d = true ∧ (isFromD d 1 4 = true → k .non) ∧ (isFromD d 1 4 = false → x ("NoLookers", none))
def fLookLotX : F0 := fun ds k x => ∃ (w : Wn) (d : D), ds = [wD w, d] ∧ plD 38 d = true ∧ thg 1000 d = true ∧ (goodLotD w.n d = true → k .non) ∧ (goodLotD w.n d = false → x ("NoLot", none))
def fIsLotX : F0 := fun ds k x => ∃ (w : Wn) (d : D), ds = [wD w, d] ∧ WOk w ∧ plD 38 d = true ∧ thg 1000 d = true ∧ k (.bl (goodLotD w.n d))
def Pl (d : D) : Prop := plD 38 d = true ∧ thg 1000 d = true
theorem pl_wD {w : Wn} (ok : WOk w) : Pl (wD w) := by
  refine ⟨?_, ?_⟩
  · show plDs 37 [D.int w.n, .tup (w.E.map prE)] = true
    rw [plDs_iff]
    intro d hd
    rcases List.mem_cons.mp hd with rfl | hd
    · rfl
    · rw [List.mem_singleton.mp hd]
      show plDs 36 (w.E.map prE) = true
      rw [plDs_iff]
      intro d hd
      obtain ⟨p, _, rfl⟩ := List.mem_map.mp hd
      exact pl_tupI 35 [p.1, p.2]
  · have hl := len_E ok
    have h : thgs 1000 (w.E.map prE) = true := thgs_iff.mpr fun d hd => by
      obtain ⟨p, _, rfl⟩ := List.mem_map.mp hd
      rfl
    show (decide ([D.int w.n, .tup (w.E.map prE)].length ≤ 1000) && (true && ((decide ((w.E.map prE).length ≤ 1000) && thgs 1000 (w.E.map prE)) && true))) = true
    rw [h, List.length_map, decide_eq_true (show [D.int w.n, D.tup (w.E.map prE)].length ≤ 1000 from by simp), decide_eq_true (show w.E.length ≤ 1000 by omega)]
    rfl
theorem pl_lot {S : List Int} (h : S.length ≤ 1000) : Pl (tupI S) := by
  refine ⟨pl_tupI 37 S, ?_⟩
  have q : thgs 1000 (S.map D.int) = true := thgs_iff.mpr fun d hd => by
    obtain ⟨z, _, rfl⟩ := List.mem_map.mp hd
    rfl
  show (decide ((S.map D.int).length ≤ 1000) && thgs 1000 (S.map D.int)) = true
  rw [q, List.length_map, decide_eq_true h]
  rfl
def BadW (d : D) : Prop := Pl d ∧ isWarrenD d = false
def BadM (d : D) : Prop := Pl d ∧ isFromD d 1 4 = false
def BadL (w : Wn) (d : D) : Prop := Pl d ∧ goodLotD w.n d = false
/-- the doors, in the order of the arguments -/
def door3 (d1 d2 d3 : D) (x : Ex → Prop) : Prop := (BadW d1 ∧ x ("NoWarren", none)) ∨ (∃ w, d1 = wD w ∧ WOk w ∧ BadM d2 ∧ x ("NoLookers", none)) ∨ ∃ w m, d1 = wD w ∧ d2 = .int m ∧ WOk w ∧ (1 ≤ m ∧ m ≤ 4) ∧ BadL w d3 ∧ x ("NoLot", none)
def fLookAllX : F0 := fun ds _ x => ∃ d1 d2 d3, ds = [d1, d2, d3] ∧ door3 d1 d2 d3 x
def fFour : F0 := fun ds _ x => ∃ d1 d2 d3 d4, ds = [d1, d2, d3, d4] ∧ door3 d1 d2 d3 x
def fToShutX : F0 := fun ds _ x => ∃ d1 d2, ds = [d1, d2] ∧ ((BadW d1 ∧ x ("NoWarren", none)) ∨ ∃ w, d1 = wD w ∧ WOk w ∧ BadM d2 ∧ x ("NoLookers", none))
def fThreeX1 : F0 := fun ds _ x => ∃ d, ds = [d] ∧ BadW d ∧ x ("NoWarren", none)
def fBehindX : F0 := fun ds k x => ∃ d1 d2 d3, ds = [d1, d2, d3] ∧ ((BadW d1 ∧ x ("NoWarren", none)) ∨ (∃ w, d1 = wD w ∧ WOk w ∧ BadL w d2 ∧ x ("NoLot", none)) ∨ (∃ w S, d1 = wD w ∧ d2 = tupI S ∧ WOk w ∧ LotOk w.n S ∧ BadL w d3 ∧ x ("NoLot", none)) ∨
  ∃ w S L, d1 = wD w ∧ d2 = tupI S ∧ d3 = tupI L ∧ WOk w ∧ LotOk w.n S ∧ LotOk w.n L ∧ k (tupI (later w S L)))
def fBehindC : F0 := fun ds k _ => ∃ w S L, ds = [wD w, tupI S, tupI L] ∧ WOk w ∧ LotOk w.n S ∧ LotOk w.n L ∧ k (tupI (later w S L))
def fPlanX : F0 := fun ds _ x => ∃ d1 d2 d3, ds = [d1, d2, d3] ∧ ((BadW d1 ∧ x ("NoWarren", none)) ∨ (∃ w, d1 = wD w ∧ WOk w ∧ BadL w d2 ∧ x ("NoLot", none)) ∨ ∃ w S, d1 = wD w ∧ d2 = tupI S ∧ WOk w ∧ LotOk w.n S ∧ PlanIn d3 ∧ isPlanD w.n 4 d3 = false ∧ x ("NoPlan", none))
end MA

set_option Elab.async false
set_option linter.all false
set_option maxRecDepth 100000
set_option maxHeartbeats 4000000
namespace K01
open PySem PySem.Spec PyProof.Rows L2 FX MA
local macro_rules
  | `(tactic| and_intros) => `(tactic| simp (config := { failIfUnchanged := false }) only [sNext, sSeq, sRet, sRetN, sRetOwn, sAsg, sAsgO, sExpr, sIf, sBreak, sCont, sFreeze, sPar, sUnp, sSetL, sPutD, sAugI, sAugL,
  dVar, dC, dOp, dUn, daNil, daCons, dTup, dLst, dCall, dtB, dtTru, dtNot, dtAnd, dtOr, dAndV, dOrV, dNotV, dIf, dChain, dPur, dPurF, dtPur, dTake, dGetA, dGetB, dApp, dPop, dPopAt, dIns0, dItemO, dIsi, dSl, dpN, dpS, dSortSet, dMinP, dLstRg, dTupRg, dF0, dF1,
  diSeq, diRng1, diRng2, diZip, diEnum, diRev, dgName, dgTup, setAll, setM, endF0, endF1, envF0, envF1, wipeE, dtYes, fls, mineD, putE, Sl.put, Sl.seen, x_itT, x_itL, x_itS,
  List.map_cons, List.map_nil, List.length_cons, List.length_nil, List.getElem?_cons_zero, List.getElem?_cons_succ, List.set_cons_zero, List.set_cons_succ, List.replicate, List.append_assoc, List.cons_append, List.nil_append,
  Option.some.injEq, Sl.frz.injEq, Sl.own.injEq, Sl.par.injEq, D.int.injEq, D.bl.injEq, D.tup.injEq, D.lst.injEq, D.dI.injEq, D.dT.injEq, List.cons.injEq, exists_eq_left', exists_eq_left, exists_eq_right, exists_eq_right', exists_eq, exists_eq', Int.reducePow, Int.reduceNeg, Int.reduceLT, Int.reduceLE, Int.reduceMul, Int.reduceAdd, Int.reduceSub, Int.reduceToNat, Nat.reducePow, x_na10, or_true, true_or, and_self, x_set0, x_set1, x_ixN20, x_ixN21, and_true, true_and, Nat.reduceAdd, Nat.reduceSub, Nat.reduceLT, Nat.reduceLeDiff, Int.reduceEq, decide_true, decide_false, Int.cast_ofNat_Int,
  x_sub, x_add, x_addT, x_mul, x_div, x_mod, x_pow, x_le, x_gt, x_ge, x_lt, x_neg, x_catL, x_eq, x_ne, x_isN, x_notN, x_isB, x_notB, x_lenT, x_lenL, x_lenS, x_min, x_max, x_intI, x_intB, x_tupL, x_tupT, x_lstL, x_lstT, x_ixT0, x_ixT1, x_ixL0, x_ixL1, tru_non, tru_bl, tru_int, tru_tup, tru_lst, ty_non, ty_bl, ty_int, ty_str, ty_tup, ty_lst, x_slT, x_slL, and_assoc, exists_and_left, imm, imms,
  reduceIte, Bool.not_true, Bool.not_false, Bool.false_eq_true, Option.map_some, if_true, if_false, false_and, and_false, reduceCtorEq, exists_const, exists_false, false_or, or_false, Bool.true_and, Bool.and_true])
local macro_rules
  | `(tactic| subst_eqs) => `(tactic| simp (config := { failIfUnchanged := false }) only [x_w0, x_w1, x_ty, x_tyT, x_truT, x_lenI, x_itI, Option.some.injEq, exists_eq_left', isi1, isi2, isi3, isi4, isi5, isi6, isi7, isi8, isi9, isi10, isi11, isi12, isi13, isi14, isi15, isi16, isi17, isi18, isi19, isi20, isi21, isi22, isi23, isi24, Bool.not_true, Bool.not_false, if_true, if_false, Bool.false_eq_true, reduceIte])
local macro_rules
  | `(tactic| ac_rfl) => `(tactic| (try and_intros; try subst_eqs; try and_intros; try subst_eqs; try and_intros))
theorem pl_of {n : Nat} {ds : List D} (h : plD (n + 1) (.tup ds) = true) : ∀ d ∈ ds, plD n d = true := plDs_iff.mp h
theorem pass_len {n : Int} {es : List D} (h : es.length ≠ 2) : isPassD n (.tup es) = false := by
  unfold isPassD
  split
  · rename_i a b e
    injection e with e
    rw [e] at h
    exact absurd rfl h
  · rfl
theorem p_is_passage (ds : List D) (k : D → Prop) (x : Ex → Prop) (h : fIsPassageG ds k x) : ds.length = 2 ∧ t_is_passage fIsFrom (endF0 false k x) (envF0 ["holes", "thing", "one"] ds) := by
  obtain ⟨n, d, rfl, hp, hk⟩ := h
  refine ⟨rfl, ?_⟩
  unfold t_is_passage
  and_intros
  cases d with
  | tup es =>
    and_intros; subst_eqs
    match es, hp, hk with
    | [], hp, hk => ac_rfl; exact hk
    | [a], hp, hk =>
      rw [pass_len (by simp)] at hk
      ac_rfl; exact hk
    | a :: b :: c :: r, hp, hk =>
      rw [pass_len (by simp)] at hk
      ac_rfl
      rw [if_pos (by simp; omega)]
      exact hk
    | [a, b], hp, hk =>
      have q := pl_of hp
      ac_rfl
      refine lc_go [a, b] _ (fun e => some (.bl (isFromD e 0 (n - 1)))) (fun K hK => by ac_rfl; exact hK) (by simp) (fun e he J hJ => ?_) ?_
      · ac_rfl
        exact ⟨e, 0, _, rfl, pl_ty (q e he), hJ⟩
      · rw [fm_some, allF_map]
        ac_rfl
        by_cases c : ([a, b].all fun e => isFromD e 0 (n - 1)) = true
        · rw [c]
          simp only [List.all_cons, List.all_nil, Bool.and_true, Bool.and_eq_true] at c
          obtain ⟨ca, cb⟩ := c
          cases a with
          | int i =>
            cases b with
            | int j =>
              unfold isFromD at ca cb
              simp only [Bool.and_eq_true, decide_eq_true_iff] at ca cb
              refine ⟨_, rfl, ?_⟩
              have e : isPassD n (.tup [.int i, .int j]) = decide (i < j) := by
                show (decide (0 ≤ i) && decide (i < j) && decide (j ≤ n - 1)) = _
                rw [decide_eq_true ca.1, decide_eq_true cb.2, Bool.true_and, Bool.and_true]
              rw [e] at hk
              exact hk
            | _ => exact absurd cb (by simp [isFromD])
          | _ => exact absurd ca (by simp [isFromD])
        · have c := Bool.eq_false_iff.mpr c
          rw [c]
          have e : isPassD n (.tup [a, b]) = false := by
            cases q : isPassD n (.tup [a, b]) with
            | false => rfl
            | true =>
              obtain ⟨e, h0, h1, h2⟩ := pass_form q
              rw [Bool.eq_false_iff] at c
              refine absurd ?_ c
              generalize toPrD (D.tup [a, b]) = p at e h0 h1 h2
              injection e with e
              injection e with ea eb
              injection eb with eb _
              subst ea eb
              simp [isFromD]
              omega
          rw [e] at hk
          exact hk
  | int i => and_intros; subst_eqs; exact hk
  | bl b => and_intros; subst_eqs; exact hk
  | non => and_intros; subst_eqs; exact hk
  | str _ => and_intros; subst_eqs; exact hk
  | lst _ => and_intros; subst_eqs; exact hk
  | dI _ => cases hp
  | dT _ => cases hp
  | scr _ => cases hp
  | obj _ _ => cases hp
theorem zipD_prs (E : List (Int × Int)) : zipD (E.map prE) (E.map prE).tail = (E.zip E.tail).map fun q => .tup [prE q.1, prE q.2] := zipD_map prE E
theorem bad_len {es : List D} (h : es.length ≠ 2) : isWarrenD (.tup es) = false := by
  unfold isWarrenD
  split
  · rename_i e
    injection e with e
    rw [e] at h
    exact absurd rfl h
  · rfl
theorem isi_tup (d : D) (h : (tyD d).isSome = true) : (∃ s, tyD d = some s ∧ isiT s "tuple" = false ∧ ∀ es, d ≠ .tup es) ∨ ∃ es, d = .tup es := by
  cases d with
  | tup es => exact .inr ⟨es, rfl⟩
  | dI _ => cases h
  | dT _ => cases h
  | scr _ => cases h
  | obj _ _ => cases h
  | _ => exact .inl ⟨_, rfl, rfl, fun es e => nomatch e⟩
mutual
theorem pl_mono {n m : Nat} (h : n ≤ m) : ∀ d : D, plD n d = true → plD m d = true
  | .tup ds, q => by
    cases n with
    | zero => cases q
    | succ n =>
      cases m with
      | zero => omega
      | succ m => exact pls_mono (by omega) ds q
  | .lst ds, q => by
    cases n with
    | zero => cases q
    | succ n =>
      cases m with
      | zero => omega
      | succ m => exact pls_mono (by omega) ds q
  | .non, _ => by cases m <;> rfl
  | .bl _, _ => by cases m <;> rfl
  | .int _, _ => by cases m <;> rfl
  | .str x, q => by cases n <;> cases m <;> exact q
  | .dI _, q => by cases n <;> cases q
  | .dT _, q => by cases n <;> cases q
  | .scr _, q => by cases n <;> cases q
  | .obj _ _, q => by cases n <;> cases q
theorem pls_mono {n m : Nat} (h : n ≤ m) : ∀ ds : List D, plDs n ds = true → plDs m ds = true
  | [], _ => rfl
  | d :: ds, q => by
    rw [plDs, Bool.and_eq_true] at q ⊢
    exact ⟨pl_mono h d q.1, pls_mono h ds q.2⟩
end
theorem p_is_warren (ds : List D) (k : D → Prop) (x : Ex → Prop) (h : fIsWarrenG ds k x) : ds.length = 1 ∧ t_is_warren fIsFrom fIsPassageG (endF0 false k x) (envF0 ["thing", "holes", "passages", "one", "other", "hole"] ds) := by
  obtain ⟨d, rfl, hp, ht, hk⟩ := h
  refine ⟨rfl, ?_⟩
  unfold t_is_warren
  and_intros
  cases d with
  | tup es =>
    and_intros; subst_eqs
    by_cases hl : es.length = 2
    · match es, hl, hp, ht, hk with
      | [a, b], _, hp, ht, hk =>
        have q := pl_of hp
        rw [thg, Bool.and_eq_true] at ht
        have ht := thgs_iff.mp ht.2
        ac_rfl
        refine ⟨_, _, _, rfl, pl_ty (q a (by simp)), ?_⟩
        cases ha : isFromD a 2 10 with
        | false =>
          ac_rfl
          have : isWarrenD (.tup [a, b]) = false := by
            unfold isWarrenD
            split
            · rename_i n es e
              injection e with e
              injection e with e1 e2
              subst e1
              have ha : (decide (2 ≤ n) && decide (n ≤ 10)) = false := ha
              rw [ha, Bool.false_and, Bool.false_and, Bool.false_and]
            · rfl
          rw [this] at hk
          exact hk
        | true =>
          obtain ⟨n, rfl, hn0, hn1⟩ : ∃ n : Nat, a = .int n ∧ 2 ≤ n ∧ n ≤ 10 := by
            cases a with
            | int i =>
              unfold isFromD at ha
              simp only [Bool.and_eq_true, decide_eq_true_iff] at ha
              obtain ⟨n, hn⟩ := Int.eq_ofNat_of_zero_le (show 0 ≤ i by omega)
              subst hn
              exact ⟨n, rfl, by omega, by omega⟩
            | _ => exact absurd ha (by simp [isFromD])
          ac_rfl
          rcases isi_tup b (pl_ty (q b (by simp))) with ⟨s, hs, hb0, hb⟩ | ⟨es, hb⟩
          · refine ⟨s, hs, ?_⟩
            rw [hb0]
            ac_rfl
            have : isWarrenD (.tup [.int n, b]) = false := by
              cases b with
              | tup es => exact absurd rfl (hb es)
              | _ => rfl
            rw [this] at hk
            exact hk
          · subst hb
            have hle : es.length ≤ 1000 := by
              have := ht (.tup es) (by simp)
              rw [thg, Bool.and_eq_true, decide_eq_true_iff] at this
              exact this.1
            have qe := pl_of (q (.tup es) (by simp))
            refine ⟨"tuple", rfl, ?_⟩
            rw [show isiT "tuple" "tuple" = true from rfl]
            ac_rfl
            refine lc_go es _ (fun e => some (.bl (isPassD n e))) (fun K hK => by ac_rfl; exact hK) (by omega) (fun e he J hJ => ?_) ?_
            · ac_rfl
              exact ⟨n, e, rfl, pl_mono (by decide) e (qe e he), hJ⟩
            · rw [fm_some, allF_map]
              ac_rfl
              have hw : isWarrenD (.tup [.int n, .tup es]) = (es.all (isPassD n) && incE (es.map toPrD) && covE n (es.map toPrD)) := by
                show (decide ((2 : Int) ≤ n) && decide ((n : Int) ≤ 10) && es.all (isPassD n) && incE (es.map toPrD) && covE (n : Int).toNat (es.map toPrD)) = _
                rw [decide_eq_true (by omega), decide_eq_true (by omega), Int.toNat_natCast]
                rfl
              rw [hw] at hk
              cases hall : es.all (isPassD n) with
              | false =>
                rw [hall] at hk
                ac_rfl
                exact hk
              | true =>
                rw [hall] at hk
                ac_rfl
                obtain ⟨e1, hr⟩ := pass_all hall
                have hlE : (es.map toPrD).length ≤ 1000 := by rw [List.length_map]; exact hle
                generalize es.map toPrD = E at *
                subst e1
                clear hall hw
                refine lc_go ((E.zip E.tail).map fun q => .tup [prE q.1, prE q.2]) _ (fun d => match d with | .tup [.tup [.int a, .int b], .tup [.int c, .int d]] => some (.bl (decide ([a, b] < [c, d]))) | _ => none) (fun K hK => by
                  ac_rfl
                  rw [cut_tail, zipD_map]
                  exact hK) (by rw [List.length_map, List.length_zip]; omega) (fun d hd J hJ => ?_) ?_
                · obtain ⟨q, hq, rfl⟩ := List.mem_map.mp hd
                  ac_rfl
                  exact ⟨_, ltD_tup _ _, hJ⟩
                · have e2 : ((E.zip E.tail).map fun q => D.tup [prE q.1, prE q.2]).filterMap (fun d => match d with | .tup [.tup [.int a, .int b], .tup [.int c, .int d]] => some (D.bl (decide ([a, b] < [c, d]))) | _ => none) = (E.zip E.tail).map fun q => D.bl (decide ([q.1.1, q.1.2] < [q.2.1, q.2.2])) := by
                    rw [List.filterMap_map]
                    exact fm_some (fun q : (Int × Int) × (Int × Int) => D.bl (decide ([q.1.1, q.1.2] < [q.2.1, q.2.2]))) (E.zip E.tail)
                  rw [e2, allF_map]
                  ac_rfl
                  have hinc : ((E.zip E.tail).all fun q => decide ([q.1.1, q.1.2] < [q.2.1, q.2.2])) = incE E := rfl
                  rw [hinc]
                  cases hi : incE E with
                  | false =>
                    rw [hi] at hk
                    ac_rfl
                    exact hk
                  | true =>
                    rw [hi] at hk
                    ac_rfl
                    refine lc_go ((upto n).map D.int) _ (fun d => match d with | .int h => some (.bl (E.any fun p => decide (h = p.1 ∨ h = p.2))) | _ => none) (fun K hK => by
                      ac_rfl
                      refine ⟨by omega, by omega, ?_⟩
                      rw [rangeL_upto]
                      exact hK) (by rw [List.length_map, len_upto]; omega) (fun d hd J hJ => ?_) ?_
                    · obtain ⟨h, hh, rfl⟩ := List.mem_map.mp hd
                      ac_rfl
                      refine lc_go (E.map prE) _ (fun e => match e with | .tup [.int a, .int b] => some (.bl (decide (h = a ∨ h = b))) | _ => none) (fun K hK => by ac_rfl; exact hK) (by rw [List.length_map]; omega) (fun e he J hJ => ?_) ?_
                      · obtain ⟨p, hp, rfl⟩ := List.mem_map.mp he
                        ac_rfl
                        rw [in_pr]
                        ac_rfl
                        exact hJ
                      · have e3 : (E.map prE).filterMap (fun e => match e with | .tup [.int a, .int b] => some (D.bl (decide (h = a ∨ h = b))) | _ => none) = E.map fun p => D.bl (decide (h = p.1 ∨ h = p.2)) := by
                          rw [List.filterMap_map]
                          exact fm_some (fun p : Int × Int => D.bl (decide (h = p.1 ∨ h = p.2))) E
                        rw [e3, anyF_map]
                        ac_rfl
                        exact hJ
                    · have e3 : ((upto n).map D.int).filterMap (fun d => match d with | .int h => some (D.bl (E.any fun p => decide (h = p.1 ∨ h = p.2))) | _ => none) = (upto n).map fun h => D.bl (E.any fun p => decide (h = p.1 ∨ h = p.2)) := by
                        rw [List.filterMap_map]
                        exact fm_some (fun h : Int => D.bl (E.any fun p => decide (h = p.1 ∨ h = p.2))) (upto n)
                      rw [e3, allF_map]
                      ac_rfl
                      exact hk
    · rw [bad_len hl] at hk
      ac_rfl
      rw [if_pos (by simp; omega)]
      exact hk
  | int i => and_intros; subst_eqs; exact hk
  | bl b => and_intros; subst_eqs; exact hk
  | non => and_intros; subst_eqs; exact hk
  | str _ => and_intros; subst_eqs; exact hk
  | lst _ => and_intros; subst_eqs; exact hk
  | dI _ => cases hp
  | dT _ => cases hp
  | scr _ => cases hp
  | obj _ _ => cases hp
end K01

set_option Elab.async false
set_option linter.all false
set_option maxRecDepth 100000
set_option maxHeartbeats 4000000
namespace K01
open PySem PySem.Spec PyProof.Rows L2 FX MA
local macro_rules
  | `(tactic| and_intros) => `(tactic| simp (config := { failIfUnchanged := false }) only [sNext, sSeq, sRet, sRetN, sRetOwn, sAsg, sAsgO, sExpr, sIf, sBreak, sCont, sFreeze, sPar, sUnp, sSetL, sPutD, sAugI, sAugL,
  dVar, dC, dOp, dUn, daNil, daCons, dTup, dLst, dCall, dtB, dtTru, dtNot, dtAnd, dtOr, dAndV, dOrV, dNotV, dIf, dChain, dPur, dPurF, dtPur, dTake, dGetA, dGetB, dApp, dPop, dPopAt, dIns0, dItemO, dIsi, dSl, dpN, dpS, dSortSet, dMinP, dLstRg, dTupRg, dF0, dF1,
  diSeq, diRng1, diRng2, diZip, diEnum, diRev, dgName, dgTup, setAll, setM, endF0, endF1, envF0, envF1, wipeE, dtYes, fls, mineD, putE, Sl.put, Sl.seen, x_itT, x_itL, x_itS,
  List.map_cons, List.map_nil, List.length_cons, List.length_nil, List.getElem?_cons_zero, List.getElem?_cons_succ, List.set_cons_zero, List.set_cons_succ, List.replicate, List.append_assoc, List.cons_append, List.nil_append,
  Option.some.injEq, Sl.frz.injEq, Sl.own.injEq, Sl.par.injEq, D.int.injEq, D.bl.injEq, D.tup.injEq, D.lst.injEq, D.dI.injEq, D.dT.injEq, List.cons.injEq, exists_eq_left', exists_eq_left, exists_eq_right, exists_eq_right', exists_eq, exists_eq', Int.reducePow, Int.reduceNeg, Int.reduceLT, Int.reduceLE, Int.reduceMul, Int.reduceAdd, Int.reduceSub, Int.reduceToNat, Nat.reducePow, x_na10, or_true, true_or, and_self, x_set0, x_set1, x_ixN20, x_ixN21, and_true, true_and, Nat.reduceAdd, Nat.reduceSub, Nat.reduceLT, Nat.reduceLeDiff, Int.reduceEq, decide_true, decide_false, Int.cast_ofNat_Int,
  x_sub, x_add, x_addT, x_mul, x_div, x_mod, x_pow, x_le, x_gt, x_ge, x_lt, x_neg, x_catL, x_eq, x_ne, x_isN, x_notN, x_isB, x_notB, x_lenT, x_lenL, x_lenS, x_min, x_max, x_intI, x_intB, x_tupL, x_tupT, x_lstL, x_lstT, x_ixT0, x_ixT1, x_ixL0, x_ixL1, tru_non, tru_bl, tru_int, tru_tup, tru_lst, ty_non, ty_bl, ty_int, ty_str, ty_tup, ty_lst, x_slT, x_slL, and_assoc, exists_and_left, imm, imms,
  reduceIte, Bool.not_true, Bool.not_false, Bool.false_eq_true, Option.map_some, if_true, if_false, false_and, and_false, reduceCtorEq, exists_const, exists_false, false_or, or_false, Bool.true_and, Bool.and_true])
local macro_rules
  | `(tactic| subst_eqs) => `(tactic| simp (config := { failIfUnchanged := false }) only [x_w0, x_w1, x_ty, x_tyT, x_truT, x_lenI, x_itI, Option.some.injEq, exists_eq_left', isi1, isi2, isi3, isi4, isi5, isi6, isi7, isi8, isi9, isi10, isi11, isi12, isi13, isi14, isi15, isi16, isi17, isi18, isi19, isi20, isi21, isi22, isi23, isi24, Bool.not_true, Bool.not_false, if_true, if_false, Bool.false_eq_true, reduceIte])
local macro_rules
  | `(tactic| ac_rfl) => `(tactic| (try and_intros; try subst_eqs; try and_intros; try subst_eqs; try and_intros))
theorem p_look_warren (ds : List D) (k : D → Prop) (x : Ex → Prop) (h : fLookWarrenX ds k x) : ds.length = 1 ∧ t_look_warren fIsWarrenG (endF0 false k x) (envF0 ["warren"] ds) := by
  obtain ⟨d, rfl, hp, ht, h1, h0⟩ := h
  refine ⟨rfl, ?_⟩
  unfold t_look_warren dF0n sRaise
  ac_rfl
  refine ⟨d, rfl, hp, ht, ?_⟩
  ac_rfl
  cases c : isWarrenD d with
  | true => exact h1 c
  | false => exact h0 c
theorem p_look_lookers (ds : List D) (k : D → Prop) (x : Ex → Prop) (h : fLookLookersX ds k x) : ds.length = 1 ∧ t_look_lookers fIsFrom (endF0 false k x) (envF0 ["lookers"] ds) := by
  obtain ⟨d, rfl, hp, h1, h0⟩ := h
  refine ⟨rfl, ?_⟩
  unfold t_look_lookers dF0n sRaise
  ac_rfl
  refine ⟨d, 1, 4, rfl, pl_ty hp, ?_⟩
  ac_rfl
  cases c : isFromD d 1 4 with
  | true => exact h1 c
  | false => exact h0 c
theorem lot_len : ∀ d : D, thg 1000 d = true → (match d with | .tup es => es.length ≤ 1000 | _ => True) := fun d h => by
  cases d with
  | tup es =>
    rw [thg, Bool.and_eq_true, decide_eq_true_iff] at h
    exact h.1
  | _ => trivial
theorem p_look_lot (ds : List D) (k : D → Prop) (x : Ex → Prop) (h : fLookLotX ds k x) : ds.length = 2 ∧ t_look_lot fGoodLot (endF0 false k x) (envF0 ["warren", "lot"] ds) := by
  obtain ⟨w, d, rfl, hp, ht, h1, h0⟩ := h
  refine ⟨rfl, ?_⟩
  unfold t_look_lot dF0n sRaise
  ac_rfl
  refine ⟨w, d, rfl, pl_mono (by decide) d hp, lot_len d ht, ?_⟩
  ac_rfl
  cases c : goodLotD w.n d with
  | true => exact h1 c
  | false => exact h0 c
theorem p_is_lot (ds : List D) (k : D → Prop) (x : Ex → Prop) (h : fIsLotX ds k x) : ds.length = 2 ∧ t_is_lot fLookWarrenX fGoodLot (endF0 false k x) (envF0 ["warren", "thing"] ds) := by
  obtain ⟨w, d, rfl, ok, hp, ht, hk⟩ := h
  refine ⟨rfl, ?_⟩
  have pw := pl_wD ok
  unfold t_is_lot dF0n
  ac_rfl
  refine ⟨wD w, rfl, pw.1, pw.2, fun _ => ?_, fun q => by rw [ok_warren ok] at q; cases q⟩
  exact ⟨w, d, rfl, pl_mono (by decide) d hp, lot_len d ht, hk⟩
theorem p_look_all (ds : List D) (k : D → Prop) (x : Ex → Prop) (h : fLookAllX ds k x) : ds.length = 3 ∧ t_look_all fLookWarrenX fLookLookersX fLookLotX (endF0 false k x) (envF0 ["warren", "lookers", "where"] ds) := by
  obtain ⟨d1, d2, d3, rfl, h⟩ := h
  refine ⟨rfl, ?_⟩
  unfold t_look_all
  ac_rfl
  rcases h with ⟨b, hx⟩ | ⟨w, rfl, ok, b, hx⟩ | ⟨w, m, rfl, rfl, ok, hm, b, hx⟩
  · exact ⟨d1, rfl, b.1.1, b.1.2, fun q => (by rw [b.2] at q; cases q), fun _ => hx⟩
  · have pw := pl_wD ok
    refine ⟨wD w, rfl, pw.1, pw.2, fun _ => ?_, fun q => by rw [ok_warren ok] at q; cases q⟩
    exact ⟨d2, rfl, b.1.1, fun q => (by rw [b.2] at q; cases q), fun _ => hx⟩
  · have pw := pl_wD ok
    refine ⟨wD w, rfl, pw.1, pw.2, fun _ => ?_, fun q => by rw [ok_warren ok] at q; cases q⟩
    have e : isFromD (.int m) 1 4 = true := by
      show (decide (1 ≤ m) && decide (m ≤ 4)) = true
      rw [decide_eq_true hm.1, decide_eq_true hm.2]; rfl
    refine ⟨.int m, rfl, rfl, fun _ => ?_, fun q => by rw [e] at q; cases q⟩
    exact ⟨w, d3, rfl, b.1.1, b.1.2, fun q => (by rw [b.2] at q; cases q), fun _ => hx⟩
theorem p_surely (ds : List D) (k : D → Prop) (x : Ex → Prop) (h : fFour ds k x) : ds.length = 4 ∧ t_surely fLookAllX (endF0 false k x) (envF0 ["warren", "lookers", "where", "thing", "lot"] ds) := by
  obtain ⟨d1, d2, d3, d4, rfl, h⟩ := h
  refine ⟨rfl, ?_⟩
  unfold t_surely
  ac_rfl
  exact ⟨d1, d2, d3, rfl, h⟩
theorem p_fewest_days (ds : List D) (k : D → Prop) (x : Ex → Prop) (h : fLookAllX ds k x) : ds.length = 3 ∧ t_fewest_days fLookAllX (endF0 false k x) (envF0 ["warren", "lookers", "where"] ds) := by
  obtain ⟨d1, d2, d3, rfl, h⟩ := h
  refine ⟨rfl, ?_⟩
  unfold t_fewest_days
  ac_rfl
  exact ⟨d1, d2, d3, rfl, h⟩
theorem p_shows (ds : List D) (k : D → Prop) (x : Ex → Prop) (h : fFour ds k x) : ds.length = 4 ∧ t_shows fLookWarrenX fLookLookersX fLookLotX (endF0 false k x) (envF0 ["warren", "lookers", "where", "thing", "lot"] ds) := by
  obtain ⟨d1, d2, d3, d4, rfl, h⟩ := h
  refine ⟨rfl, ?_⟩
  unfold t_shows
  ac_rfl
  rcases h with ⟨b, hx⟩ | ⟨w, rfl, ok, b, hx⟩ | ⟨w, m, rfl, rfl, ok, hm, b, hx⟩
  · exact ⟨d1, rfl, b.1.1, b.1.2, fun q => (by rw [b.2] at q; cases q), fun _ => hx⟩
  · have pw := pl_wD ok
    refine ⟨wD w, rfl, pw.1, pw.2, fun _ => ?_, fun q => by rw [ok_warren ok] at q; cases q⟩
    exact ⟨d2, rfl, b.1.1, fun q => (by rw [b.2] at q; cases q), fun _ => hx⟩
  · have pw := pl_wD ok
    refine ⟨wD w, rfl, pw.1, pw.2, fun _ => ?_, fun q => by rw [ok_warren ok] at q; cases q⟩
    have e : isFromD (.int m) 1 4 = true := by
      show (decide (1 ≤ m) && decide (m ≤ 4)) = true
      rw [decide_eq_true hm.1, decide_eq_true hm.2]; rfl
    refine ⟨.int m, rfl, rfl, fun _ => ?_, fun q => by rw [e] at q; cases q⟩
    exact ⟨w, d3, rfl, b.1.1, b.1.2, fun q => (by rw [b.2] at q; cases q), fun _ => hx⟩
theorem p_to_shut (ds : List D) (k : D → Prop) (x : Ex → Prop) (h : fToShutX ds k x) : ds.length = 2 ∧ t_to_shut fLookWarrenX fLookLookersX (endF0 false k x) (envF0 ["warren", "lookers", "found", "passage", "other"] ds) := by
  obtain ⟨d1, d2, rfl, h⟩ := h
  refine ⟨rfl, ?_⟩
  unfold t_to_shut
  ac_rfl
  rcases h with ⟨b, hx⟩ | ⟨w, rfl, ok, b, hx⟩
  · exact ⟨d1, rfl, b.1.1, b.1.2, fun q => (by rw [b.2] at q; cases q), fun _ => hx⟩
  · have pw := pl_wD ok
    refine ⟨wD w, rfl, pw.1, pw.2, fun _ => ?_, fun q => by rw [ok_warren ok] at q; cases q⟩
    exact ⟨d2, rfl, b.1.1, fun q => (by rw [b.2] at q; cases q), fun _ => hx⟩
theorem p_three_arms (ds : List D) (k : D → Prop) (x : Ex → Prop) (h : fThreeX1 ds k x) : ds.length = 1 ∧ t_three_arms fLookWarrenX (endF0 false k x) (envF0 ["warren", "hole", "arms"] ds) := by
  obtain ⟨d1, rfl, b, hx⟩ := h
  refine ⟨rfl, ?_⟩
  unfold t_three_arms
  ac_rfl
  exact ⟨d1, rfl, b.1.1, b.1.2, fun q => (by rw [b.2] at q; cases q), fun _ => hx⟩
theorem p_look_plan (ds : List D) (k : D → Prop) (x : Ex → Prop) (h : fPlanX ds k x) : ds.length = 3 ∧ t_look_plan fLookWarrenX fLookLotX fIsPlan (endF0 false k x) (envF0 ["warren", "where", "plan"] ds) := by
  obtain ⟨d1, d2, d3, rfl, h⟩ := h
  refine ⟨rfl, ?_⟩
  unfold t_look_plan dF0n sRaise
  ac_rfl
  rcases h with ⟨b, hx⟩ | ⟨w, rfl, ok, b, hx⟩ | ⟨w, S, rfl, rfl, ok, hS, hp, b, hx⟩
  · exact ⟨d1, rfl, b.1.1, b.1.2, fun q => (by rw [b.2] at q; cases q), fun _ => hx⟩
  · have pw := pl_wD ok
    refine ⟨wD w, rfl, pw.1, pw.2, fun _ => ?_, fun q => by rw [ok_warren ok] at q; cases q⟩
    exact ⟨w, d2, rfl, b.1.1, b.1.2, fun q => (by rw [b.2] at q; cases q), fun _ => hx⟩
  · have pw := pl_wD ok
    have hl := len_lot hS
    have hhi := ok.hi
    have ps := pl_lot (S := S) (by omega)
    refine ⟨wD w, rfl, pw.1, pw.2, fun _ => ?_, fun q => by rw [ok_warren ok] at q; cases q⟩
    refine ⟨w, tupI S, rfl, ps.1, ps.2, fun _ => ?_, fun q => by rw [goodLot_ok.mpr hS] at q; cases q⟩
    refine ⟨w, 4, d3, rfl, hp, ?_⟩
    rw [b]
    ac_rfl
    exact hx
theorem p_walk (ds : List D) (k : D → Prop) (x : Ex → Prop) (h : fPlanX ds k x) : ds.length = 3 ∧ t_walk fPlanX (endF0 false k x) (envF0 ["warren", "where", "plan", "rows", "some", "found", "row", "good", "hole"] ds) := by
  obtain ⟨d1, d2, d3, rfl, h⟩ := h
  refine ⟨rfl, ?_⟩
  unfold t_walk
  ac_rfl
  exact ⟨d1, d2, d3, rfl, h⟩
theorem p_behind (ds : List D) (k : D → Prop) (x : Ex → Prop) (h : fBehindX ds k x) : ds.length = 3 ∧ t_behind fLookWarrenX fLookLotX fLater (endF0 false k x) (envF0 ["warren", "where", "lot"] ds) := by
  obtain ⟨d1, d2, d3, rfl, h⟩ := h
  refine ⟨rfl, ?_⟩
  unfold t_behind dF0n
  ac_rfl
  have lot1 : ∀ {w : Wn} {S : List Int}, WOk w → LotOk w.n S → Pl (tupI S) := fun {w S} ok hS => pl_lot (by have := len_lot hS; have := ok.hi; omega)
  rcases h with ⟨b, hx⟩ | ⟨w, rfl, ok, b, hx⟩ | ⟨w, S, rfl, rfl, ok, hS, b, hx⟩ | ⟨w, S, L, rfl, rfl, rfl, ok, hS, hL, hk⟩
  · exact ⟨d1, rfl, b.1.1, b.1.2, fun q => (by rw [b.2] at q; cases q), fun _ => hx⟩
  · have pw := pl_wD ok
    refine ⟨wD w, rfl, pw.1, pw.2, fun _ => ?_, fun q => by rw [ok_warren ok] at q; cases q⟩
    exact ⟨w, d2, rfl, b.1.1, b.1.2, fun q => (by rw [b.2] at q; cases q), fun _ => hx⟩
  · have pw := pl_wD ok
    have ps := lot1 ok hS
    refine ⟨wD w, rfl, pw.1, pw.2, fun _ => ?_, fun q => by rw [ok_warren ok] at q; cases q⟩
    refine ⟨w, tupI S, rfl, ps.1, ps.2, fun _ => ?_, fun q => by rw [goodLot_ok.mpr hS] at q; cases q⟩
    exact ⟨w, d3, rfl, b.1.1, b.1.2, fun q => (by rw [b.2] at q; cases q), fun _ => hx⟩
  · have pw := pl_wD ok
    have ps := lot1 ok hS
    have pl := lot1 ok hL
    refine ⟨wD w, rfl, pw.1, pw.2, fun _ => ?_, fun q => by rw [ok_warren ok] at q; cases q⟩
    refine ⟨w, tupI S, rfl, ps.1, ps.2, fun _ => ?_, fun q => by rw [goodLot_ok.mpr hS] at q; cases q⟩
    refine ⟨w, tupI L, rfl, pl.1, pl.2, fun _ => ?_, fun q => by rw [goodLot_ok.mpr hL] at q; cases q⟩
    exact ⟨w, S, L, rfl, ok, hS, hk⟩
theorem calm_behind (ds : List D) (k : D → Prop) (x : Ex → Prop) (h : fBehindC ds k x) : fBehindX ds k (fun _ => False) := by
  obtain ⟨w, S, L, rfl, ok, hS, hL, hk⟩ := h
  exact ⟨_, _, _, rfl, .inr (.inr (.inr ⟨w, S, L, rfl, rfl, rfl, ok, hS, hL, hk⟩))⟩
theorem calm_is_lot (ds : List D) (k : D → Prop) (x : Ex → Prop) (h : fIsLotX ds k x) : fIsLotX ds k (fun _ => False) := h
end K01

set_option Elab.async false
set_option linter.all false
set_option maxRecDepth 100000
set_option maxHeartbeats 4000000
namespace MA
open FX
def ltB (a b : D) : Bool := match ltD a b with
  | some (.bl c) => c
  | _ => false
def risesL (es : List D) : Bool := (es.zip es.tail).all fun q => ltB q.1 q.2
def fRises : F0 := fun ds k _ => ∃ es : List D, ds = [.tup es] ∧ es.length ≤ 1000 ∧ (∀ i a b, es[i]? = some a → es[i + 1]? = some b → ∃ c, ltD a b = some (.bl c)) ∧ k (.bl (risesL es))
def atB (es : List D) (j : Int) : Bool := match es[(j - 1).toNat]?, es[j.toNat]? with
  | some a, some b => ltB a b
  | _, _ => true
theorem rises_at (es : List D) : (((List.range (es.length - 1)).map fun i : Nat => (1 : Int) + i).all (atB es)) = risesL es := by
  rw [Bool.eq_iff_iff]
  unfold risesL
  rw [List.all_eq_true, List.all_eq_true]
  have key : ∀ i : Nat, i < es.length - 1 → ∃ a b, es[i]? = some a ∧ es[i + 1]? = some b ∧ atB es ((1 : Int) + i) = ltB a b := fun i hi => by
    have h1 : i < es.length := by omega
    have h2 : i + 1 < es.length := by omega
    refine ⟨es[i], es[i + 1], List.getElem?_eq_getElem h1, List.getElem?_eq_getElem h2, ?_⟩
    unfold atB
    rw [show ((1 : Int) + (i : Int) - 1).toNat = i by omega, show ((1 : Int) + (i : Int)).toNat = i + 1 by omega, List.getElem?_eq_getElem h1, List.getElem?_eq_getElem h2]
  constructor
  · rintro h ⟨a, b⟩ hm
    obtain ⟨i, hi⟩ := List.getElem?_of_mem hm
    rw [List.getElem?_zip_eq_some] at hi
    obtain ⟨g1, g2⟩ := hi
    rw [List.getElem?_tail] at g2
    have hl := (List.getElem?_eq_some_iff.mp g2).1
    obtain ⟨a', b', e1, e2, e3⟩ := key i (by omega)
    rw [e1] at g1
    rw [e2] at g2
    cases g1
    cases g2
    rw [← e3]
    exact h _ (List.mem_map.mpr ⟨i, List.mem_range.mpr (by omega), rfl⟩)
  · intro h j hj
    obtain ⟨i, hi, rfl⟩ := List.mem_map.mp hj
    have hi := List.mem_range.mp hi
    obtain ⟨a, b, e1, e2, e3⟩ := key i hi
    rw [e3]
    refine h (a, b) (List.mem_of_getElem? (i := i) ?_)
    rw [List.getElem?_zip_eq_some, List.getElem?_tail]
    exact ⟨e1, e2⟩
theorem rises_map {α : Type} (f : α → D) (c : α → α → Bool) (h : ∀ a b, ltD (f a) (f b) = some (.bl (c a b))) (l : List α) : risesL (l.map f) = (l.zip l.tail).all fun q => c q.1 q.2 := by
  unfold risesL
  rw [← List.map_tail]
  have e : ∀ a b : List α, ((a.map f).zip (b.map f)).all (fun q => ltB q.1 q.2) = (a.zip b).all fun q => c q.1 q.2 := fun a => by
    induction a with
    | nil => intro b; rfl
    | cons x a ih =>
      intro b
      cases b with
      | nil => rfl
      | cons y b =>
        rw [List.map_cons, List.map_cons, List.zip_cons_cons, List.zip_cons_cons, List.all_cons, List.all_cons, ih b]
        congr 1
        unfold ltB
        rw [h x y]
  exact e l l.tail
end MA
namespace K01
open PySem PySem.Spec PyProof.Rows L2 FX MA
local macro_rules
  | `(tactic| and_intros) => `(tactic| simp (config := { failIfUnchanged := false }) only [sNext, sSeq, sRet, sRetN, sRetOwn, sAsg, sAsgO, sExpr, sIf, sBreak, sCont, sFreeze, sPar, sUnp, sSetL, sPutD, sAugI, sAugL,
  dVar, dC, dOp, dUn, daNil, daCons, dTup, dLst, dCall, dtB, dtTru, dtNot, dtAnd, dtOr, dAndV, dOrV, dNotV, dIf, dChain, dPur, dPurF, dtPur, dTake, dGetA, dGetB, dApp, dPop, dPopAt, dIns0, dItemO, dIsi, dSl, dpN, dpS, dSortSet, dMinP, dLstRg, dTupRg, dF0, dF1,
  diSeq, diRng1, diRng2, diZip, diEnum, diRev, dgName, dgTup, setAll, setM, endF0, endF1, envF0, envF1, wipeE, dtYes, fls, mineD, putE, Sl.put, Sl.seen, x_itT, x_itL, x_itS,
  List.map_cons, List.map_nil, List.length_cons, List.length_nil, List.getElem?_cons_zero, List.getElem?_cons_succ, List.set_cons_zero, List.set_cons_succ, List.replicate, List.append_assoc, List.cons_append, List.nil_append,
  Option.some.injEq, Sl.frz.injEq, Sl.own.injEq, Sl.par.injEq, D.int.injEq, D.bl.injEq, D.tup.injEq, D.lst.injEq, D.dI.injEq, D.dT.injEq, List.cons.injEq, exists_eq_left', exists_eq_left, exists_eq_right, exists_eq_right', exists_eq, exists_eq', Int.reducePow, Int.reduceNeg, Int.reduceLT, Int.reduceLE, Int.reduceMul, Int.reduceAdd, Int.reduceSub, Int.reduceToNat, Nat.reducePow, x_na10, or_true, true_or, and_self, x_set0, x_set1, x_ixN20, x_ixN21, and_true, true_and, Nat.reduceAdd, Nat.reduceSub, Nat.reduceLT, Nat.reduceLeDiff, Int.reduceEq, decide_true, decide_false, Int.cast_ofNat_Int,
  x_sub, x_add, x_addT, x_mul, x_div, x_mod, x_pow, x_le, x_gt, x_ge, x_lt, x_neg, x_catL, x_eq, x_ne, x_isN, x_notN, x_isB, x_notB, x_lenT, x_lenL, x_lenS, x_min, x_max, x_intI, x_intB, x_tupL, x_tupT, x_lstL, x_lstT, x_ixT0, x_ixT1, x_ixL0, x_ixL1, tru_non, tru_bl, tru_int, tru_tup, tru_lst, ty_non, ty_bl, ty_int, ty_str, ty_tup, ty_lst, x_slT, x_slL, and_assoc, exists_and_left, imm, imms,
  reduceIte, Bool.not_true, Bool.not_false, Bool.false_eq_true, Option.map_some, if_true, if_false, false_and, and_false, reduceCtorEq, exists_const, exists_false, false_or, or_false, Bool.true_and, Bool.and_true])
local macro_rules
  | `(tactic| subst_eqs) => `(tactic| simp (config := { failIfUnchanged := false }) only [x_w0, x_w1, x_ty, x_tyT, x_truT, x_lenI, x_itI, Option.some.injEq, exists_eq_left', isi1, isi2, isi3, isi4, isi5, isi6, isi7, isi8, isi9, isi10, isi11, isi12, isi13, isi14, isi15, isi16, isi17, isi18, isi19, isi20, isi21, isi22, isi23, isi24, Bool.not_true, Bool.not_false, if_true, if_false, Bool.false_eq_true, reduceIte])
local macro_rules
  | `(tactic| ac_rfl) => `(tactic| (try and_intros; try subst_eqs; try and_intros; try subst_eqs; try and_intros))
theorem p_law_is_number (ds : List D) (k : D → Prop) (x : Ex → Prop) (h : fIsFrom ds k x) : ds.length = 3 ∧ t__law_is_number (endF0 false k x) (envF0 ["thing", "low", "high"] ds) := by
  obtain ⟨d, lo, hi, rfl, ht, hk⟩ := h
  refine ⟨rfl, ?_⟩
  unfold t__law_is_number
  and_intros
  cases d with
  | int i =>
    and_intros; subst_eqs
    unfold isFromD at hk
    simp only [] at hk
    by_cases h : lo ≤ i
    · rw [decide_eq_true h]; rw [decide_eq_true h] at hk; and_intros; simpa using hk
    · rw [decide_eq_false h]; rw [decide_eq_false h] at hk; and_intros; simpa using hk
  | bl b => and_intros; subst_eqs; exact hk
  | non => and_intros; subst_eqs; exact hk
  | str _ => and_intros; subst_eqs; exact hk
  | tup _ => and_intros; subst_eqs; exact hk
  | lst _ => and_intros; subst_eqs; exact hk
  | dI _ => cases ht
  | dT _ => cases ht
  | scr _ => cases ht
  | obj _ _ => cases ht
theorem ixT {es : List D} {j : Int} {i : Nat} {d : D} (h : j = i) (g : es[i]? = some d) : ixD (.tup es) (.int j) = some d := by
  have hl := (List.getElem?_eq_some_iff.mp g).1
  subst h
  show (ixN es.length (i : Int)).bind (fun j => es[j]?) = some d
  have : ixN es.length (i : Int) = some i := by
    unfold ixN
    rw [if_pos (by omega)]
    simp [hl]
  rw [this]
  exact g
theorem p_law_rises (ds : List D) (k : D → Prop) (x : Ex → Prop) (h : fRises ds k x) : ds.length = 1 ∧ t__law_rises (endF0 false k x) (envF0 ["some", "at"] ds) := by
  obtain ⟨es, rfl, hl, hc, hk⟩ := h
  refine ⟨rfl, ?_⟩
  unfold t__law_rises
  ac_rfl
  refine lc_go (((List.range (es.length - 1)).map fun i : Nat => (1 : Int) + i).map .int) _ (pickI fun j => !atB es j) (fun K hK => by
    ac_rfl
    refine ⟨by omega, by omega, ?_⟩
    have e : rangeL 1 (es.length : Int) = ((List.range (es.length - 1)).map fun i : Nat => (1 : Int) + i).map .int := by
      unfold rangeL
      rw [List.map_map, show ((es.length : Int) - 1).toNat = es.length - 1 by omega]
      rfl
    rw [e]
    exact hK) (by rw [List.length_map, List.length_map, List.length_range]; omega) (fun d hd J hJ => ?_) ?_
  · obtain ⟨j, hj, rfl⟩ := List.mem_map.mp hd
    obtain ⟨i, hi, rfl⟩ := List.mem_map.mp hj
    have hi := List.mem_range.mp hi
    rw [pickI_int] at hJ
    ac_rfl
    have h1 : i < es.length := by omega
    have h2 : i + 1 < es.length := by omega
    have g1 := List.getElem?_eq_getElem h1
    have g2 := List.getElem?_eq_getElem h2
    obtain ⟨c, q⟩ := hc i _ _ g1 g2
    have hat : atB es ((1 : Int) + i) = c := by
      unfold atB
      rw [show ((1 : Int) + (i : Int) - 1).toNat = i by omega, show ((1 : Int) + (i : Int)).toNat = i + 1 by omega, g1, g2]
      show ltB es[i] es[i + 1] = c
      unfold ltB
      rw [q]
    rw [hat] at hJ
    refine ⟨_, ixT (i := i) (by omega) g1, _, ixT (i := i + 1) (by omega) g2, _, q, _, rfl, ?_⟩
    cases c with
    | true => exact hJ
    | false => exact hJ
  · rw [fm_pick]
    ac_rfl
    refine ⟨_, eq_ints _ [], ?_⟩
    have e : decide (((((List.range (es.length - 1)).map fun i : Nat => (1 : Int) + i)).filter fun j => !atB es j) = []) = risesL es := by
      rw [← rises_at, Bool.eq_iff_iff, decide_eq_true_iff, List.filter_eq_nil_iff, List.all_eq_true]
      simp
    rw [e]
    exact hk
end K01

set_option Elab.async false
set_option linter.all false
set_option maxRecDepth 100000
set_option maxHeartbeats 4000000
namespace MA
open FX
theorem nodup_le {α : Type} [DecidableEq α] : ∀ (l m : List α), l.Nodup → (∀ z ∈ l, z ∈ m) → l.length ≤ m.length
  | [], m, _, _ => Nat.zero_le _
  | a :: l, m, h, hm => by
    rw [List.nodup_cons] at h
    have ha := hm a (List.mem_cons_self ..)
    have := nodup_le l (m.erase a) h.2 fun z hz => by
      have ne : z ≠ a := fun e => h.1 (by rw [← e]; exact hz)
      exact (List.mem_erase_of_ne ne).mpr (hm z (List.mem_cons_of_mem _ hz))
    rw [List.length_erase_of_mem ha] at this
    have := List.length_pos_of_mem ha
    rw [List.length_cons]; omega
def fLawIsLot : F0 := fun ds k _ => ∃ (w : Wn) (d : D), ds = [wD w, d] ∧ Pl d ∧ k (.bl (goodLotD w.n d))
def fLawIsWarren : F0 := fun ds k _ => ∃ d : D, ds = [d] ∧ Pl d ∧ k (.bl (isWarrenD d))
theorem incr_zip : ∀ S : List Int, incrD (S.map D.int) = (S.zip S.tail).all fun q => decide (q.1 < q.2)
  | [] => rfl
  | [a] => rfl
  | a :: b :: r => by
    show (decide (a < b) && incrD ((b :: r).map D.int)) = _
    rw [incr_zip (b :: r)]
    rfl
theorem rises_ints (S : List Int) : risesL (S.map .int) = incrD (S.map D.int) := by
  rw [incr_zip]
  exact rises_map D.int (fun a b => decide (a < b)) (fun a b => rfl) S
theorem rises_prs (E : List (Int × Int)) : risesL (E.map prE) = incE E := rises_map prE (fun p q => decide ([p.1, p.2] < [q.1, q.2])) (fun p q => ltD_tup _ _) E
end MA
namespace K01
open PySem PySem.Spec PyProof.Rows L2 FX MA
local macro_rules
  | `(tactic| and_intros) => `(tactic| simp (config := { failIfUnchanged := false }) only [sNext, sSeq, sRet, sRetN, sRetOwn, sAsg, sAsgO, sExpr, sIf, sBreak, sCont, sFreeze, sPar, sUnp, sSetL, sPutD, sAugI, sAugL,
  dVar, dC, dOp, dUn, daNil, daCons, dTup, dLst, dCall, dtB, dtTru, dtNot, dtAnd, dtOr, dAndV, dOrV, dNotV, dIf, dChain, dPur, dPurF, dtPur, dTake, dGetA, dGetB, dApp, dPop, dPopAt, dIns0, dItemO, dIsi, dSl, dpN, dpS, dSortSet, dMinP, dLstRg, dTupRg, dF0, dF1,
  diSeq, diRng1, diRng2, diZip, diEnum, diRev, dgName, dgTup, setAll, setM, endF0, endF1, envF0, envF1, wipeE, dtYes, fls, mineD, putE, Sl.put, Sl.seen, x_itT, x_itL, x_itS,
  List.map_cons, List.map_nil, List.length_cons, List.length_nil, List.getElem?_cons_zero, List.getElem?_cons_succ, List.set_cons_zero, List.set_cons_succ, List.replicate, List.append_assoc, List.cons_append, List.nil_append,
  Option.some.injEq, Sl.frz.injEq, Sl.own.injEq, Sl.par.injEq, D.int.injEq, D.bl.injEq, D.tup.injEq, D.lst.injEq, D.dI.injEq, D.dT.injEq, List.cons.injEq, exists_eq_left', exists_eq_left, exists_eq_right, exists_eq_right', exists_eq, exists_eq', Int.reducePow, Int.reduceNeg, Int.reduceLT, Int.reduceLE, Int.reduceMul, Int.reduceAdd, Int.reduceSub, Int.reduceToNat, Nat.reducePow, x_na10, or_true, true_or, and_self, x_set0, x_set1, x_ixN20, x_ixN21, and_true, true_and, Nat.reduceAdd, Nat.reduceSub, Nat.reduceLT, Nat.reduceLeDiff, Int.reduceEq, decide_true, decide_false, Int.cast_ofNat_Int,
  x_sub, x_add, x_addT, x_mul, x_div, x_mod, x_pow, x_le, x_gt, x_ge, x_lt, x_neg, x_catL, x_eq, x_ne, x_isN, x_notN, x_isB, x_notB, x_lenT, x_lenL, x_lenS, x_min, x_max, x_intI, x_intB, x_tupL, x_tupT, x_lstL, x_lstT, x_ixT0, x_ixT1, x_ixL0, x_ixL1, tru_non, tru_bl, tru_int, tru_tup, tru_lst, ty_non, ty_bl, ty_int, ty_str, ty_tup, ty_lst, x_slT, x_slL, and_assoc, exists_and_left, imm, imms,
  reduceIte, Bool.not_true, Bool.not_false, Bool.false_eq_true, Option.map_some, if_true, if_false, false_and, and_false, reduceCtorEq, exists_const, exists_false, false_or, or_false, Bool.true_and, Bool.and_true])
local macro_rules
  | `(tactic| subst_eqs) => `(tactic| simp (config := { failIfUnchanged := false }) only [x_w0, x_w1, x_ty, x_tyT, x_truT, x_lenI, x_itI, Option.some.injEq, exists_eq_left', isi1, isi2, isi3, isi4, isi5, isi6, isi7, isi8, isi9, isi10, isi11, isi12, isi13, isi14, isi15, isi16, isi17, isi18, isi19, isi20, isi21, isi22, isi23, isi24, Bool.not_true, Bool.not_false, if_true, if_false, Bool.false_eq_true, reduceIte])
local macro_rules
  | `(tactic| ac_rfl) => `(tactic| (try and_intros; try subst_eqs; try and_intros; try subst_eqs; try and_intros))
theorem ne_nilD {es : List D} (h : plDs 59 es = true) : neOp (.lst es) (.lst []) = some (.bl (!es.isEmpty)) := by
  unfold neOp
  rw [if_pos ⟨h, rfl⟩]
  cases es <;> rfl
def notNum (lo hi : Int) (e : D) : Option D := if (!isFromD e lo hi) = true then some e else none
theorem fm_not (lo hi : Int) : ∀ es : List D, es.filterMap (notNum lo hi) = es.filter fun e => !isFromD e lo hi
  | [] => rfl
  | e :: es => by
    rw [List.filterMap_cons, List.filter_cons, fm_not lo hi es]
    unfold notNum
    by_cases h : (!isFromD e lo hi) = true
    · simp only [h, if_true]
    · simp only [h, if_false, Bool.false_eq_true]
theorem p_law_is_lot (ds : List D) (k : D → Prop) (x : Ex → Prop) (h : fLawIsLot ds k x) : ds.length = 2 ∧ t__law_is_lot fIsFrom fRises (endF0 false k x) (envF0 ["warren", "thing", "hole"] ds) := by
  obtain ⟨w, d, rfl, hp, hk⟩ := h
  refine ⟨rfl, ?_⟩
  unfold t__law_is_lot
  and_intros
  rcases isi_tup d (pl_ty hp.1) with ⟨s, hs, hb0, hb⟩ | ⟨es, rfl⟩
  · refine ⟨s, hs, ?_⟩
    rw [hb0]
    and_intros; subst_eqs
    have : goodLotD w.n d = false := by
      cases d with
      | tup es => exact absurd rfl (hb es)
      | _ => rfl
    rw [this] at hk
    exact hk
  · have hl : es.length ≤ 1000 := lot_len (.tup es) hp.2
    have hq := pl_of hp.1
    refine ⟨"tuple", rfl, ?_⟩
    rw [show isiT "tuple" "tuple" = true from rfl]
    ac_rfl
    refine lc_go es _ (notNum 0 ((w.n : Int) - 1)) (fun K hK => by ac_rfl; exact hK) (by omega) (fun e he J hJ => ?_) ?_
    · ac_rfl
      refine ⟨e, 0, _, rfl, pl_ty (hq e he), ?_⟩
      unfold notNum at hJ
      cases c : isFromD e 0 ((w.n : Int) - 1) with
      | true => rw [c] at hJ; ac_rfl; exact hJ
      | false => rw [c] at hJ; ac_rfl; exact hJ
    · rw [fm_not]
      ac_rfl
      refine ⟨_, ne_nilD (plDs_iff.mpr fun e he => pl_mono (by decide) e (hq e (List.mem_filter.mp he).1)), ?_⟩
      have e1 : (es.filter fun e => !isFromD e 0 ((w.n : Int) - 1)).isEmpty = es.all fun e => isFromD e 0 ((w.n : Int) - 1) := by
        rw [Bool.eq_iff_iff, List.isEmpty_iff, List.filter_eq_nil_iff, List.all_eq_true]
        simp
      rw [e1]
      have hg : goodLotD w.n (.tup es) = (es.all (fun e => isFromD e 0 ((w.n : Int) - 1)) && incrD es) := rfl
      rw [hg] at hk
      cases c : es.all fun e => isFromD e 0 ((w.n : Int) - 1) with
      | false =>
        rw [c] at hk
        ac_rfl
        exact hk
      | true =>
        rw [c] at hk
        ac_rfl
        obtain ⟨S, rfl⟩ := all_ints c
        refine ⟨S.map .int, rfl, hl, fun i a b ha hb => ?_, ?_⟩
        · rw [List.getElem?_map] at ha hb
          cases qa : S[i]? with
          | none => rw [qa] at ha; cases ha
          | some z =>
            cases qb : S[i + 1]? with
            | none => rw [qb] at hb; cases hb
            | some y =>
              rw [qa] at ha
              rw [qb] at hb
              cases ha
              cases hb
              exact ⟨_, rfl⟩
        · rw [rises_ints]
          exact hk
theorem p_law_is_warren (ds : List D) (k : D → Prop) (x : Ex → Prop) (h : fLawIsWarren ds k x) : ds.length = 1 ∧ t__law_is_warren fIsFrom fRises (endF0 false k x) (envF0 ["thing", "met", "pair"] ds) := by
  obtain ⟨d, rfl, hp, hk⟩ := h
  refine ⟨rfl, ?_⟩
  unfold t__law_is_warren
  and_intros
  rcases isi_tup d (pl_ty hp.1) with ⟨s, hs, hb0, hb⟩ | ⟨es, rfl⟩
  · refine ⟨s, hs, ?_⟩
    rw [hb0]
    and_intros; subst_eqs
    have : isWarrenD d = false := by
      cases d with
      | tup es => exact absurd rfl (hb es)
      | _ => rfl
    rw [this] at hk
    exact hk
  · refine ⟨"tuple", rfl, ?_⟩
    rw [show isiT "tuple" "tuple" = true from rfl]
    by_cases hl : es.length = 2
    · match es, hl, hp, hk with
      | [a, b], _, hp, hk =>
        have q := pl_of hp.1
        have ht := hp.2
        rw [thg, Bool.and_eq_true] at ht
        have ht := thgs_iff.mp ht.2
        ac_rfl
        refine ⟨a, _, _, rfl, pl_ty (q a (by simp)), ?_⟩
        cases ha : isFromD a 2 10 with
        | false =>
          ac_rfl
          have : isWarrenD (.tup [a, b]) = false := by
            unfold isWarrenD
            split
            · rename_i n es e
              injection e with e
              injection e with e1 e2
              subst e1
              have ha : (decide (2 ≤ n) && decide (n ≤ 10)) = false := ha
              rw [ha, Bool.false_and, Bool.false_and, Bool.false_and]
            · rfl
          rw [this] at hk
          exact hk
        | true =>
          obtain ⟨n, rfl, hn0, hn1⟩ : ∃ n : Nat, a = .int n ∧ 2 ≤ n ∧ n ≤ 10 := by
            cases a with
            | int i =>
              unfold isFromD at ha
              simp only [Bool.and_eq_true, decide_eq_true_iff] at ha
              obtain ⟨n, hn⟩ := Int.eq_ofNat_of_zero_le (show 0 ≤ i by omega)
              subst hn
              exact ⟨n, rfl, by omega, by omega⟩
            | _ => exact absurd ha (by simp [isFromD])
          ac_rfl
          rcases isi_tup b (pl_ty (q b (by simp))) with ⟨s, hs, hb0, hb⟩ | ⟨es, hb⟩
          · refine ⟨s, hs, ?_⟩
            rw [hb0]
            ac_rfl
            have : isWarrenD (.tup [.int n, b]) = false := by
              cases b with
              | tup es => exact absurd rfl (hb es)
              | _ => rfl
            rw [this] at hk
            exact hk
          · subst hb
            have hle : es.length ≤ 1000 := lot_len (.tup es) (ht (.tup es) (by simp))
            have qe := pl_of (q (.tup es) (by simp))
            refine ⟨"tuple", rfl, ?_⟩
            rw [show isiT "tuple" "tuple" = true from rfl]
            ac_rfl
            have hw : isWarrenD (.tup [.int n, .tup es]) = (es.all (isPassD n) && incE (es.map toPrD) && covE n (es.map toPrD)) := by
              show (decide ((2 : Int) ≤ n) && decide ((n : Int) ≤ 10) && es.all (isPassD n) && incE (es.map toPrD) && covE (n : Int).toNat (es.map toPrD)) = _
              rw [decide_eq_true (by omega), decide_eq_true (by omega), Int.toNat_natCast]
              rfl
            rw [hw] at hk
            have hbad : ∀ e ∈ es, isPassD n e = false → k (.bl false) := fun e he c => by
              have : es.all (isPassD n) = false := by
                cases q : es.all (isPassD n) with
                | false => rfl
                | true => rw [List.all_eq_true.mp q e he] at c; cases c
              rw [this] at hk
              exact hk
            refine for_go es [Sl.frz (.tup [.int n, .tup es]), Sl.own (.dI []), .no] (fun i env => ∃ kvs s2, env = [Sl.frz (.tup [.int n, .tup es]), Sl.own (.dI kvs), s2] ∧ (∀ e ∈ es.take i, isPassD n e = true) ∧ Fnd ⟨n, []⟩ kvs fun z => ∃ p ∈ (es.take i).map toPrD, z = p.1 ∨ z = p.2)
              (fun K hK => by ac_rfl; exact hK) ⟨[], _, rfl, fun e he => by simp at he, List.nodup_nil, fun z => by simp, fun z hz => nomatch hz⟩ (fun i e env hd hI => ?_) (fun env hI => ?_)
            · obtain ⟨kvs, s2, rfl, hgood, hF⟩ := hI
              have hm := List.mem_of_getElem? hd
              ac_rfl
              rcases isi_tup e (pl_ty (qe e hm)) with ⟨s, hs, hb0, hb⟩ | ⟨xs, rfl⟩
              · refine ⟨s, hs, ?_⟩
                rw [hb0]
                ac_rfl
                refine hbad e hm ?_
                cases e with
                | tup xs => exact absurd rfl (hb xs)
                | _ => rfl
              · refine ⟨"tuple", rfl, ?_⟩
                rw [show isiT "tuple" "tuple" = true from rfl]
                ac_rfl
                by_cases hx : xs.length = 2
                · match xs, hx with
                  | [u, v], _ =>
                    have qx := pl_of (qe _ hm)
                    ac_rfl
                    refine ⟨u, _, _, rfl, pl_ty (qx u (by simp)), ?_⟩
                    cases hu : isFromD u 0 ((n : Int) - 1) with
                    | false =>
                      ac_rfl
                      refine hbad _ hm ?_
                      cases c : isPassD n (.tup [u, v]) with
                      | false => rfl
                      | true =>
                        obtain ⟨e, h0, h1, h2⟩ := pass_form c
                        generalize toPrD (D.tup [u, v]) = p at e h0 h1 h2
                        injection e with e
                        injection e with ea eb
                        subst ea
                        have : isFromD (.int p.1) 0 ((n : Int) - 1) = true := by simp [isFromD]; omega
                        rw [this] at hu
                        cases hu
                    | true =>
                      obtain ⟨a, rfl, ha0, ha1⟩ : ∃ a : Int, u = .int a ∧ 0 ≤ a ∧ a ≤ (n : Int) - 1 := by
                        cases u with
                        | int a =>
                          unfold isFromD at hu
                          simp only [Bool.and_eq_true, decide_eq_true_iff] at hu
                          exact ⟨a, rfl, hu.1, hu.2⟩
                        | _ => exact absurd hu (by simp [isFromD])
                      ac_rfl
                      refine ⟨v, _, _, rfl, pl_ty (qx v (by simp)), ?_⟩
                      cases hv : isFromD v (a + 1) ((n : Int) - 1) with
                      | false =>
                        ac_rfl
                        refine hbad _ hm ?_
                        cases c : isPassD n (.tup [.int a, v]) with
                        | false => rfl
                        | true =>
                          obtain ⟨e, h0, h1, h2⟩ := pass_form c
                          generalize toPrD (D.tup [.int a, v]) = p at e h0 h1 h2
                          injection e with e
                          injection e with ea eb
                          injection eb with eb _
                          injection ea with ea
                          subst eb
                          have : isFromD (.int p.2) (a + 1) ((n : Int) - 1) = true := by simp [isFromD]; omega
                          rw [this] at hv
                          cases hv
                      | true =>
                        obtain ⟨b, rfl, hb0, hb1⟩ : ∃ b : Int, v = .int b ∧ a + 1 ≤ b ∧ b ≤ (n : Int) - 1 := by
                          cases v with
                          | int b =>
                            unfold isFromD at hv
                            simp only [Bool.and_eq_true, decide_eq_true_iff] at hv
                            exact ⟨b, rfl, hv.1, hv.2⟩
                          | _ => exact absurd hv (by simp [isFromD])
                        have hpass : isPassD n (.tup [.int a, .int b]) = true := by
                          show (decide (0 ≤ a) && decide (a < b) && decide (b ≤ (n : Int) - 1)) = true
                          rw [decide_eq_true ha0, decide_eq_true (by omega), decide_eq_true hb1]; rfl
                        ac_rfl
                        have hF1 := (hF.put (o := a) (d := .bl true) (P' := fun z => (∃ p ∈ (es.take i).map toPrD, z = p.1 ∨ z = p.2) ∨ z = a) ⟨ha0, by show a < ((n : Nat) : Int); omega⟩ (fun z => Iff.rfl))
                        have hF2 := (hF1.put (o := b) (d := .bl true) (P' := fun z => ∃ p ∈ (es.take (i + 1)).map toPrD, z = p.1 ∨ z = p.2) ⟨by omega, by show b < ((n : Nat) : Int); omega⟩ (fun z => by
                          rw [take_succ_get hd, List.map_append]
                          constructor
                          · rintro ⟨p, hp, e⟩
                            rcases List.mem_append.mp hp with hp | hp
                            · exact .inl (.inl ⟨p, hp, e⟩)
                            · have : p = (a, b) := by simpa [toPrD] using hp
                              subst this
                              rcases e with e | e
                              · exact .inl (.inr e)
                              · exact .inr e
                          · rintro ((⟨p, hp, e⟩ | e) | e)
                            · exact ⟨p, List.mem_append_left _ hp, e⟩
                            · exact ⟨(a, b), List.mem_append_right _ (by simp [toPrD]), .inl e⟩
                            · exact ⟨(a, b), List.mem_append_right _ (by simp [toPrD]), .inr e⟩))
                        have s1 : kvs.length ≤ n := hF.small
                        have s2 : (asPut kvs a (D.bl true)).length ≤ n := hF1.small
                        refine ⟨rfl, by show kvs.length < 16777216; omega, _, rfl, rfl, by show (asPut kvs a (D.bl true)).length < 16777216; omega, _, rfl, _, rfl, fun e he => ?_, hF2⟩
                        rcases (mem_take_succ hd).mp he with he | rfl
                        · exact hgood e he
                        · exact hpass
                · ac_rfl
                  rw [if_pos (by simp; omega)]
                  exact hbad _ hm (pass_len hx)
            · obtain ⟨kvs, s2, rfl, hgood, hF⟩ := hI
              rw [List.take_length] at hgood hF
              have hall : es.all (isPassD n) = true := List.all_eq_true.mpr hgood
              rw [hall] at hk
              obtain ⟨e1, hr⟩ := pass_all hall
              have hlE : (es.map toPrD).length ≤ 1000 := by rw [List.length_map]; exact hle
              generalize es.map toPrD = E at *
              subst e1
              have hsm : kvs.length ≤ n := hF.small
              ac_rfl
              refine ⟨E.map prE, rfl, by rw [List.length_map]; exact hlE, fun i a b ha hb => ?_, ?_⟩
              · rw [List.getElem?_map] at ha hb
                cases qa : E[i]? with
                | none => rw [qa] at ha; cases ha
                | some z =>
                  cases qb : E[i + 1]? with
                  | none => rw [qb] at hb; cases hb
                  | some y =>
                    rw [qa] at ha
                    rw [qb] at hb
                    cases ha
                    cases hb
                    exact ⟨_, ltD_tup _ _⟩
              · rw [rises_prs]
                have hcov : decide ((kvs.length : Int) = n) = covE n E := by
                  rw [Bool.eq_iff_iff, decide_eq_true_iff]
                  unfold covE
                  rw [List.all_eq_true]
                  have hperm : ∀ z, z ∈ kvs.map (·.1) → z ∈ upto n := fun z hz => mem_upto.mpr (hF.rng z hz)
                  constructor
                  · intro e h hh
                    have hsub : h ∈ kvs.map (·.1) := by
                      apply Classical.byContradiction
                      intro c
                      have := nodup_le (kvs.map (·.1)) ((upto n).filter fun z => !decide (z = h)) hF.nd (fun z hz => List.mem_filter.mpr ⟨hperm z hz, by
                        have : z ≠ h := fun q => c (q ▸ hz)
                        simp [this]⟩)
                      have h2 : ((upto n).filter fun z => !decide (z = h)).length < (upto n).length := by
                        have := List.length_filter_lt_length_iff_exists.mpr (show ∃ z ∈ upto n, ¬ (!decide (z = h)) = true from ⟨h, hh, by simp⟩)
                        exact this
                      rw [len_upto] at h2
                      rw [List.length_map] at this
                      omega
                    obtain ⟨p, hp, e⟩ := (hF.mem h).mp hsub
                    exact List.any_eq_true.mpr ⟨p, hp, decide_eq_true e⟩
                  · intro h
                    have := nodup_le (upto n) (kvs.map (·.1)) (asc_upto n).nodup (fun z hz => by
                      obtain ⟨p, hp, e⟩ := List.any_eq_true.mp (h z hz)
                      exact (hF.mem z).mpr ⟨p, hp, of_decide_eq_true e⟩)
                    rw [len_upto, List.length_map] at this
                    omega
                cases hi : incE E with
                | false =>
                  rw [hi] at hk
                  ac_rfl
                  exact hk
                | true =>
                  rw [hi] at hk
                  ac_rfl
                  refine ⟨_, rfl, _, x_eq _ _, rfl, ?_⟩
                  rw [hcov]
                  exact hk
    · rw [bad_len hl] at hk
      ac_rfl
      rw [if_pos (by simp; omega)]
      exact hk
end K01

set_option Elab.async false
set_option linter.all false
set_option maxRecDepth 100000
set_option maxHeartbeats 4000000
namespace MA
open FX
/-- a thing of at most so many levels, bent somewhere -/
def fBent : Nat → F1
  | 0 => fun _ _ _ _ => False
  | i + 1 => fun c ds k _ => ∃ (x y : Int) (d : D) (m : Nat), c = bagD x y ∧ BagOk x y ∧ ds = [d] ∧ plD i d = true ∧ i ≤ 20 ∧ thg m d = true ∧ (1 ≤ m ∧ m ≤ 900) ∧ ∀ d' x' y', plD (i + 2) d' = true → thg (m + 1) d' = true → BagOk x' y' → k d' (bagD x' y')
def Refusal (way : Int) (d1 d2 d3 : D) (x : PySem.Str) : Prop :=
  ((0 ≤ way ∧ way ≤ 6) ∧ BadW d1 ∧ x = "NoWarren") ∨
  ((way = 1 ∨ way = 2 ∨ way = 4 ∨ way = 5) ∧ x = "NoLookers" ∧ ∃ w, d1 = wD w ∧ WOk w ∧ BadM d2) ∨
  ((way = 0 ∨ way = 3) ∧ x = "NoLot" ∧ ∃ w, d1 = wD w ∧ WOk w ∧ BadL w d2) ∨
  ((way = 1 ∨ way = 2 ∨ way = 4) ∧ x = "NoLot" ∧ ∃ w m, d1 = wD w ∧ d2 = .int m ∧ WOk w ∧ (1 ≤ m ∧ m ≤ 4) ∧ BadL w d3) ∨
  (way = 0 ∧ x = "NoLot" ∧ ∃ w S, d1 = wD w ∧ d2 = tupI S ∧ WOk w ∧ LotOk w.n S ∧ BadL w d3) ∨
  (way = 3 ∧ x = "NoPlan" ∧ ∃ w S, d1 = wD w ∧ d2 = tupI S ∧ WOk w ∧ LotOk w.n S ∧ PlanIn d3 ∧ isPlanD w.n 4 d3 = false)
def fLawKind : F0 := fun ds k _ => ∃ (way : Int) (d1 d2 d3 : D) (x : PySem.Str), ds = [.int way, d1, d2, d3] ∧ Refusal way d1 d2 d3 x ∧ k (.str x)
end MA
namespace K01
open PySem PySem.Spec PyProof.Rows L2 FX MA
local macro_rules
  | `(tactic| and_intros) => `(tactic| simp (config := { failIfUnchanged := false }) only [sNext, sSeq, sRet, sRetN, sRetOwn, sAsg, sAsgO, sExpr, sIf, sBreak, sCont, sFreeze, sPar, sUnp, sSetL, sPutD, sAugI, sAugL,
  dVar, dC, dOp, dUn, daNil, daCons, dTup, dLst, dCall, dtB, dtTru, dtNot, dtAnd, dtOr, dAndV, dOrV, dNotV, dIf, dChain, dPur, dPurF, dtPur, dTake, dGetA, dGetB, dApp, dPop, dPopAt, dIns0, dItemO, dIsi, dSl, dpN, dpS, dSortSet, dMinP, dLstRg, dTupRg, dF0, dF1,
  diSeq, diRng1, diRng2, diZip, diEnum, diRev, dgName, dgTup, setAll, setM, endF0, endF1, envF0, envF1, wipeE, dtYes, fls, mineD, putE, Sl.put, Sl.seen, x_itT, x_itL, x_itS,
  List.map_cons, List.map_nil, List.length_cons, List.length_nil, List.getElem?_cons_zero, List.getElem?_cons_succ, List.set_cons_zero, List.set_cons_succ, List.replicate, List.append_assoc, List.cons_append, List.nil_append,
  Option.some.injEq, Sl.frz.injEq, Sl.own.injEq, Sl.par.injEq, D.int.injEq, D.bl.injEq, D.tup.injEq, D.lst.injEq, D.dI.injEq, D.dT.injEq, List.cons.injEq, exists_eq_left', exists_eq_left, exists_eq_right, exists_eq_right', exists_eq, exists_eq', Int.reducePow, Int.reduceNeg, Int.reduceLT, Int.reduceLE, Int.reduceMul, Int.reduceAdd, Int.reduceSub, Int.reduceToNat, Nat.reducePow, x_na10, or_true, true_or, and_self, x_set0, x_set1, x_ixN20, x_ixN21, and_true, true_and, Nat.reduceAdd, Nat.reduceSub, Nat.reduceLT, Nat.reduceLeDiff, Int.reduceEq, decide_true, decide_false, Int.cast_ofNat_Int,
  x_sub, x_add, x_addT, x_mul, x_div, x_mod, x_pow, x_le, x_gt, x_ge, x_lt, x_neg, x_catL, x_eq, x_ne, x_isN, x_notN, x_isB, x_notB, x_lenT, x_lenL, x_lenS, x_min, x_max, x_intI, x_intB, x_tupL, x_tupT, x_lstL, x_lstT, x_ixT0, x_ixT1, x_ixL0, x_ixL1, tru_non, tru_bl, tru_int, tru_tup, tru_lst, ty_non, ty_bl, ty_int, ty_str, ty_tup, ty_lst, x_slT, x_slL, and_assoc, exists_and_left, imm, imms,
  reduceIte, Bool.not_true, Bool.not_false, Bool.false_eq_true, Option.map_some, if_true, if_false, false_and, and_false, reduceCtorEq, exists_const, exists_false, false_or, or_false, Bool.true_and, Bool.and_true])
local macro_rules
  | `(tactic| subst_eqs) => `(tactic| simp (config := { failIfUnchanged := false }) only [x_w0, x_w1, x_ty, x_tyT, x_truT, x_lenI, x_itI, Option.some.injEq, exists_eq_left', isi1, isi2, isi3, isi4, isi5, isi6, isi7, isi8, isi9, isi10, isi11, isi12, isi13, isi14, isi15, isi16, isi17, isi18, isi19, isi20, isi21, isi22, isi23, isi24, Bool.not_true, Bool.not_false, if_true, if_false, Bool.false_eq_true, reduceIte])
local macro_rules
  | `(tactic| ac_rfl) => `(tactic| (try and_intros; try subst_eqs; try and_intros; try subst_eqs; try and_intros))
theorem kn1 : ("NoWarren" : Str) ∈ kindNames := by decide
theorem kn2 : ("NoLookers" : Str) ∈ kindNames := by decide
theorem kn3 : ("NoLot" : Str) ∈ kindNames := by decide
theorem kn4 : ("NoPlan" : Str) ∈ kindNames := by decide
theorem p_law_kind (ds : List D) (k : D → Prop) (x : Ex → Prop) (h : fLawKind ds k x) : ds.length = 4 ∧ t__law_kind fBehindX fLookAllX fFour fPlanX fFour fToShutX fThreeX1 (endF0 false k x) (envF0 ["way", "one", "two", "three", "kin", "e", "some", "words", "word", "is_it"] ds) := by
  obtain ⟨way, d1, d2, d3, nm, rfl, hr, hk⟩ := h
  refine ⟨rfl, ?_⟩
  unfold t__law_kind sTryKind cIf cCall
  have hw : way = 0 ∨ way = 1 ∨ way = 2 ∨ way = 3 ∨ way = 4 ∨ way = 5 ∨ way = 6 := by
    rcases hr with ⟨h, _⟩ | ⟨h, _⟩ | ⟨h, _⟩ | ⟨h, _⟩ | ⟨h, _⟩ | ⟨h, _⟩ <;> omega
  have door : ∀ {way : Int} {d1 d2 d3 : D}, way = 1 ∨ way = 2 ∨ way = 4 → Refusal way d1 d2 d3 nm → door3 d1 d2 d3 fun y => y.2 = none ∧ y.1 ∈ kindNames ∧ k (.str y.1) := fun {way d1 d2 d3} hw hr => by
    rcases hr with ⟨_, b, rfl⟩ | ⟨_, rfl, w, rfl, ok, b⟩ | ⟨h, _⟩ | ⟨_, rfl, w, m, rfl, rfl, ok, hm, b⟩ | ⟨h, _⟩ | ⟨h, _⟩
    · exact .inl ⟨b, rfl, kn1, hk⟩
    · exact .inr (.inl ⟨w, rfl, ok, b, rfl, kn2, hk⟩)
    · omega
    · exact .inr (.inr ⟨w, m, rfl, rfl, ok, hm, b, rfl, kn3, hk⟩)
    · omega
    · omega
  rcases hw with rfl | rfl | rfl | rfl | rfl | rfl | rfl
  · and_intros
    refine ⟨d1, d2, d3, rfl, ?_⟩
    rcases hr with ⟨_, b, rfl⟩ | ⟨h, _⟩ | ⟨_, rfl, w, rfl, ok, b⟩ | ⟨h, _⟩ | ⟨_, rfl, w, S, rfl, rfl, ok, hS, b⟩ | ⟨h, _⟩
    · exact .inl ⟨b, rfl, kn1, hk⟩
    · omega
    · exact .inr (.inl ⟨w, rfl, ok, b, rfl, kn3, hk⟩)
    · omega
    · exact .inr (.inr (.inl ⟨w, S, rfl, rfl, ok, hS, b, rfl, kn3, hk⟩))
    · omega
  · and_intros
    exact ⟨d1, d2, d3, rfl, door (.inl rfl) hr⟩
  · and_intros
    exact ⟨d1, d2, d3, _, rfl, door (.inr (.inl rfl)) hr⟩
  · and_intros
    refine ⟨d1, d2, d3, rfl, ?_⟩
    rcases hr with ⟨_, b, rfl⟩ | ⟨h, _⟩ | ⟨_, rfl, w, rfl, ok, b⟩ | ⟨h, _⟩ | ⟨h, _⟩ | ⟨_, rfl, w, S, rfl, rfl, ok, hS, hp, b⟩
    · exact .inl ⟨b, rfl, kn1, hk⟩
    · omega
    · exact .inr (.inl ⟨w, rfl, ok, b, rfl, kn3, hk⟩)
    · omega
    · omega
    · exact .inr (.inr ⟨w, S, rfl, rfl, ok, hS, hp, b, rfl, kn4, hk⟩)
  · and_intros
    exact ⟨d1, d2, d3, _, rfl, door (.inr (.inr rfl)) hr⟩
  · and_intros
    refine ⟨d1, d2, rfl, ?_⟩
    rcases hr with ⟨_, b, rfl⟩ | ⟨_, rfl, w, rfl, ok, b⟩ | ⟨h, _⟩ | ⟨h, _⟩ | ⟨h, _⟩ | ⟨h, _⟩
    · exact .inl ⟨b, rfl, kn1, hk⟩
    · exact .inr ⟨w, rfl, ok, b, rfl, kn2, hk⟩
    · omega
    · omega
    · omega
    · omega
  · and_intros
    rcases hr with ⟨_, b, rfl⟩ | ⟨h, _⟩ | ⟨h, _⟩ | ⟨h, _⟩ | ⟨h, _⟩ | ⟨h, _⟩
    · exact ⟨d1, rfl, b, rfl, kn1, hk⟩
    · omega
    · omega
    · omega
    · omega
    · omega
theorem bent_consts {i m : Nat} (hm : 1 ≤ m) : ∀ d ∈ [D.int 0, .int 1, .int (-1), .int 2, .int 9, .int 10, .int 11, .bl true, .non, .str "a", .tup [], .tup [.int 0], .lst [.int 0], .tup [.int 0, .int 1], .tup [.int 1, .int 0]], plD (i + 2) d = true ∧ thg (m + 1) d = true := fun d hd => by
  have h2 : decide (2 ≤ m + 1) = true := decide_eq_true (by omega)
  have h1 : decide (1 ≤ m + 1) = true := decide_eq_true (by omega)
  have h0 : decide (0 ≤ m + 1) = true := decide_eq_true (by omega)
  simp only [List.mem_cons, List.not_mem_nil, or_false] at hd
  rcases hd with rfl | rfl | rfl | rfl | rfl | rfl | rfl | rfl | rfl | rfl | rfl | rfl | rfl | rfl | rfl
  all_goals first
    | exact ⟨rfl, rfl⟩
    | exact ⟨by show PyData.strOk "a" = true; decide +kernel, rfl⟩
    | (refine ⟨rfl, ?_⟩; simp [thg, thgs]; done)
    | (refine ⟨rfl, ?_⟩; simp [thg, thgs]; omega)
theorem eq_nilT {es : List D} (h : plDs 59 es = true) : eqOp (.tup es) (.tup []) = some (.bl es.isEmpty) := by
  unfold eqOp
  rw [if_pos ⟨h, rfl⟩]
  cases es <;> rfl
theorem cut_toZ (ds : List D) {i : Int} (h : 0 ≤ i) : FX.cutD ds none (some i) = ds.take i.toNat := by
  obtain ⟨n, rfl⟩ := Int.eq_ofNat_of_zero_le h
  unfold FX.cutD
  rw [HT.sIx_none, HT.sIx_nat ds.length ds.length n]
  simp only [List.drop_zero, Nat.sub_zero, Int.toNat_natCast]
  rcases Nat.le_total n ds.length with c | c
  · rw [Nat.min_eq_left c]
  · rw [Nat.min_eq_right c, List.take_of_length_le (Nat.le_refl _), List.take_of_length_le c]
theorem cut_fromZ (ds : List D) {i : Int} (h : 0 ≤ i) : FX.cutD ds (some i) none = ds.drop i.toNat := by
  obtain ⟨n, rfl⟩ := Int.eq_ofNat_of_zero_le h
  unfold FX.cutD
  rw [HT.sIx_none, HT.sIx_nat ds.length 0 n]
  simp only [Int.toNat_natCast]
  rcases Nat.le_total n ds.length with c | c
  · rw [Nat.min_eq_left c, List.take_of_length_le (by rw [List.length_drop]; omega)]
  · rw [Nat.min_eq_right c, List.drop_of_length_le c, List.drop_length]; simp
theorem cut_to (es : List D) (a : Nat) : FX.cutD es none (some (a : Int)) = es.take a := cut_toZ es (Int.natCast_nonneg a)
theorem cut_from (es : List D) (a : Nat) : FX.cutD es (some (a : Int)) none = es.drop a := cut_fromZ es (Int.natCast_nonneg a)
theorem p_law_bent (i : Nat) (c : D) (ds : List D) (k : D → D → Prop) (x : Ex → D → Prop) (h : fBent (i + 1) c ds k x) : ds.length = 1 ∧ t__law_bent fTake fOf (fBent i) (endF1 k x) (envF1 ["bag", "thing", "at", "way"] c ds) := by
  obtain ⟨x0, y0, d, m, rfl, hb, rfl, hp, hi, ht, hm, hk⟩ := h
  refine ⟨rfl, ?_⟩
  unfold t__law_bent
  and_intros
  rcases isi_tup d (pl_ty hp) with ⟨s, hs, hb0, hbt⟩ | ⟨es, rfl⟩
  · refine ⟨s, hs, ?_⟩
    rw [hb0]
    and_intros
    refine ⟨_, _, _, rfl, hb, .inl rfl, by simp, by simp, fun d x y hd hb => ?_⟩
    obtain ⟨q1, q2⟩ := bent_consts (i := i) hm.1 d hd
    exact hk d x y q1 q2 hb
  · refine ⟨"tuple", rfl, ?_⟩
    rw [show isiT "tuple" "tuple" = true from rfl]
    have hes : plDs 59 es = true := plDs_iff.mpr fun d hd => by
      cases i with
      | zero => cases hp
      | succ i => exact pl_mono (by omega) d (pl_of hp d hd)
    have hml : es.length ≤ m ∧ ∀ d ∈ es, thg m d = true := by
      rw [thg, Bool.and_eq_true, decide_eq_true_iff] at ht
      exact ⟨ht.1, thgs_iff.mp ht.2⟩
    have hpl : ∀ d ∈ es, plD (i + 1) d = true := fun d hd => by
      cases i with
      | zero => cases hp
      | succ i => exact pl_mono (by omega) d (pl_of hp d hd)
    -- a tuple of old parts
    have old : ∀ xs : List D, (∀ d ∈ xs, d ∈ es) → xs.length ≤ es.length + 1 → plD (i + 2) (.tup xs) = true ∧ thg (m + 1) (.tup xs) = true := fun xs h1 h2 => by
      refine ⟨?_, ?_⟩
      · show plDs (i + 1) xs = true
        exact plDs_iff.mpr fun d hd => hpl d (h1 d hd)
      · rw [thg, Bool.and_eq_true, decide_eq_true_iff]
        exact ⟨by omega, thgs_iff.mpr fun d hd => thg_mono (by omega) d (hml.2 d (h1 d hd))⟩
    ac_rfl
    refine ⟨_, eq_nilT hes, ?_⟩
    cases hn : es.isEmpty with
    | true =>
      ac_rfl
      refine ⟨_, _, _, rfl, hb, .inl rfl, by simp, by simp, fun d x y hd hb => ?_⟩
      obtain ⟨q1, q2⟩ := bent_consts (i := i) hm.1 d hd
      exact hk d x y q1 q2 hb
    | false =>
      have hpos : 1 ≤ es.length := by
        cases es with
        | nil => cases hn
        | cons a r => simp
      ac_rfl
      refine ⟨_, _, _, rfl, hb, rfl, ⟨by decide, by decide⟩, fun r x y _ _ hb => ?_⟩
      refine ⟨_, x_eq _ _, ?_⟩
      by_cases hr0 : r = 0
      · rw [decide_eq_true hr0]
        ac_rfl
        refine ⟨_, _, _, rfl, hb, .inl rfl, by simp, by simp, fun d x y hd hb => ?_⟩
        obtain ⟨q1, q2⟩ := bent_consts (i := i) hm.1 d hd
        exact hk d x y q1 q2 hb
      · rw [decide_eq_false hr0]
        ac_rfl
        refine ⟨_, _, _, rfl, hb, rfl, ⟨by omega, by omega⟩, fun at_ x y hat0 hat1 hb => ?_⟩
        refine ⟨_, _, _, rfl, hb, rfl, ⟨by decide, by decide⟩, fun way x y _ _ hb => ?_⟩
        obtain ⟨a, rfl⟩ := Int.eq_ofNat_of_zero_le hat0
        have ha : a < es.length := by omega
        have e1 : (a : Int) + 1 = ((a + 1 : Nat) : Int) := by omega
        refine ⟨_, x_eq _ _, ?_⟩
        by_cases hw0 : way = 0
        · rw [decide_eq_true hw0]
          ac_rfl
          rw [e1, cut_to, cut_from]
          refine ⟨_, if_pos (by simp; omega), ?_⟩
          obtain ⟨q1, q2⟩ := old (es.take a ++ es.drop (a + 1)) (fun d hd => (List.mem_append.mp hd).elim List.mem_of_mem_take List.mem_of_mem_drop) (by simp; omega)
          exact hk _ x y q1 q2 hb
        · rw [decide_eq_false hw0]
          ac_rfl
          by_cases hw1 : way = 1
          · rw [decide_eq_true hw1]
            ac_rfl
            rw [e1, cut_to, cut_from]
            refine ⟨_, if_pos (by simp; omega), ?_⟩
            obtain ⟨q1, q2⟩ := old (es.take (a + 1) ++ es.drop a) (fun d hd => (List.mem_append.mp hd).elim List.mem_of_mem_take List.mem_of_mem_drop) (by simp; omega)
            exact hk _ x y q1 q2 hb
          · rw [decide_eq_false hw1]
            ac_rfl
            by_cases hw2 : way = 2
            · rw [decide_eq_true hw2]
              ac_rfl
              rw [cut_to, cut_from]
              refine ⟨_, if_pos (by simp; omega), ?_⟩
              obtain ⟨q1, q2⟩ := old (es.drop a ++ es.take a) (fun d hd => (List.mem_append.mp hd).elim List.mem_of_mem_drop List.mem_of_mem_take) (by simp; omega)
              exact hk _ x y q1 q2 hb
            · rw [decide_eq_false hw2]
              ac_rfl
              have hg := List.getElem?_eq_getElem ha
              have hmem : es[a] ∈ es := List.getElem_mem ha
              refine ⟨_, ixT rfl hg, ?_⟩
              cases i with
              | zero => cases hp
              | succ i =>
                refine ⟨x, y, es[a], m, rfl, hb, rfl, pl_of hp _ hmem, by omega, hml.2 _ hmem, hm, fun d' x y q1 q2 hb => ?_⟩
                rw [e1, cut_to, cut_from]
                refine ⟨_, if_pos (by simp; omega), ?_⟩
                have hlen : (es.take a ++ [d']).length + (es.drop (a + 1)).length ≤ es.length := by simp; omega
                refine ⟨.tup ((es.take a ++ [d']) ++ es.drop (a + 1)), if_pos (by omega), ?_⟩
                refine hk _ x y ?_ ?_ hb
                · show plDs (i + 1 + 1) ((es.take a ++ [d']) ++ es.drop (a + 1)) = true
                  refine plDs_iff.mpr fun d hd => ?_
                  rcases List.mem_append.mp hd with hd | hd
                  · rcases List.mem_append.mp hd with hd | hd
                    · exact hpl d (List.mem_of_mem_take hd)
                    · rw [List.mem_singleton.mp hd]; exact q1
                  · exact hpl d (List.mem_of_mem_drop hd)
                · rw [thg, Bool.and_eq_true, decide_eq_true_iff]
                  refine ⟨by rw [List.length_append]; omega, thgs_iff.mpr fun d hd => ?_⟩
                  rcases List.mem_append.mp hd with hd | hd
                  · rcases List.mem_append.mp hd with hd | hd
                    · exact thg_mono (by omega) d (hml.2 d (List.mem_of_mem_take hd))
                    · rw [List.mem_singleton.mp hd]; exact q2
                  · exact thg_mono (by omega) d (hml.2 d (List.mem_of_mem_drop hd))
end K01

set_option Elab.async false
set_option linter.all false
set_option maxRecDepth 100000
set_option maxHeartbeats 4000000
namespace MA
open FX
def fDoors : F0 := fun ds k _ => ∃ w : Wn, ds = [wD w] ∧ WOk w ∧ k (.bl true)
theorem badW_non : BadW .non := ⟨⟨rfl, rfl⟩, rfl⟩
theorem badW_lst {w : Wn} (ok : WOk w) : BadW (.lst [.int w.n, .tup (w.E.map prE)]) := by
  have p := pl_wD ok
  exact ⟨⟨p.1, p.2⟩, rfl⟩
theorem badW_no {w : Wn} (ok : WOk w) : BadW (.tup [.int w.n, .tup []]) := by
  have hlo := ok.lo
  refine ⟨⟨rfl, by simp [thg, thgs]⟩, ?_⟩
  show (decide ((2 : Int) ≤ w.n) && decide ((w.n : Int) ≤ 10) && true && true && covE (w.n : Int).toNat []) = false
  have : covE (w.n : Int).toNat [] = false := by
    rw [Int.toNat_natCast]
    unfold covE
    rw [Bool.eq_false_iff]
    intro h
    have := List.all_eq_true.mp h 0 (mem_upto.mpr ⟨by omega, by omega⟩)
    cases this
  rw [this, Bool.and_false]
theorem badW_11 {w : Wn} (ok : WOk w) : BadW (.tup [.int 11, .tup (w.E.map prE)]) := by
  have p := pl_wD ok
  refine ⟨⟨?_, ?_⟩, rfl⟩
  · have h := p.1
    show plDs 37 [.int 11, .tup (w.E.map prE)] = true
    have h : plDs 37 [.int w.n, .tup (w.E.map prE)] = true := h
    rw [plDs_iff] at h ⊢
    intro d hd
    rcases List.mem_cons.mp hd with rfl | hd
    · rfl
    · exact h d (List.mem_cons_of_mem _ hd)
  · have h := p.2
    unfold wD at h
    rw [thg, Bool.and_eq_true, thgs_iff] at h
    rw [thg, Bool.and_eq_true, thgs_iff]
    refine ⟨rfl, fun d hd => ?_⟩
    rcases List.mem_cons.mp hd with rfl | hd
    · rfl
    · exact h.2 d (List.mem_cons_of_mem _ hd)
theorem badW_two {w : Wn} (ok : WOk w) : BadW (.tup [.int w.n, .tup (w.E.map prE ++ [.tup [.int 0, .int 1], .tup [.int 0, .int 1]])]) := by
  have hl := len_E ok
  have e : w.E.map prE ++ [.tup [.int 0, .int 1], .tup [.int 0, .int 1]] = (w.E ++ [(0, 1), (0, 1)]).map prE := by rw [List.map_append]; rfl
  rw [e]
  refine ⟨⟨?_, ?_⟩, ?_⟩
  · show plDs 37 [.int w.n, .tup ((w.E ++ [(0, 1), (0, 1)]).map prE)] = true
    rw [plDs_iff]
    intro d hd
    rcases List.mem_cons.mp hd with rfl | hd
    · rfl
    · rw [List.mem_singleton.mp hd]
      show plDs 36 _ = true
      rw [plDs_iff]
      intro d hd
      obtain ⟨p, _, rfl⟩ := List.mem_map.mp hd
      exact pl_tupI 35 [p.1, p.2]
  · have h : thgs 1000 ((w.E ++ [(0, 1), (0, 1)]).map prE) = true := thgs_iff.mpr fun d hd => by
      obtain ⟨p, _, rfl⟩ := List.mem_map.mp hd
      rfl
    show (true && (true && ((decide (((w.E ++ [(0, 1), (0, 1)]).map prE).length ≤ 1000) && thgs 1000 ((w.E ++ [(0, 1), (0, 1)]).map prE)) && true))) = true
    rw [h, List.length_map, decide_eq_true (by rw [List.length_append]; simp; omega)]
    rfl
  · have e1 : ((w.E ++ [(0, 1), (0, 1)]).map prE).map toPrD = w.E ++ [(0, 1), (0, 1)] := by rw [List.map_map]; exact (List.map_congr_left fun p _ => rfl).trans (List.map_id _)
    have e2 : incE (w.E ++ [(0, 1), (0, 1)]) = false := by
      unfold incE
      rw [Bool.eq_false_iff]
      intro h
      have hm : (((0, 1), (0, 1)) : (Int × Int) × (Int × Int)) ∈ (w.E ++ [(0, 1), (0, 1)]).zip (w.E ++ [(0, 1), (0, 1)]).tail := by
        refine List.mem_of_getElem? (i := w.E.length) ?_
        rw [List.getElem?_zip_eq_some, List.getElem?_tail]
        exact ⟨by rw [List.getElem?_append_right (Nat.le_refl _)]; simp, by rw [List.getElem?_append_right (by omega)]; simp⟩
      have := List.all_eq_true.mp h _ hm
      exact absurd this (by decide)
    show (decide ((2 : Int) ≤ w.n) && decide ((w.n : Int) ≤ 10) && ((w.E ++ [(0, 1), (0, 1)]).map prE).all (isPassD w.n) && incE (((w.E ++ [(0, 1), (0, 1)]).map prE).map toPrD) && covE (w.n : Int).toNat (((w.E ++ [(0, 1), (0, 1)]).map prE).map toPrD)) = false
    rw [e1, e2, Bool.and_false, Bool.false_and]
end MA
namespace K01
open PySem PySem.Spec PyProof.Rows L2 FX MA
local macro_rules
  | `(tactic| and_intros) => `(tactic| simp (config := { failIfUnchanged := false }) only [sNext, sSeq, sRet, sRetN, sRetOwn, sAsg, sAsgO, sExpr, sIf, sBreak, sCont, sFreeze, sPar, sUnp, sSetL, sPutD, sAugI, sAugL,
  dVar, dC, dOp, dUn, daNil, daCons, dTup, dLst, dCall, dtB, dtTru, dtNot, dtAnd, dtOr, dAndV, dOrV, dNotV, dIf, dChain, dPur, dPurF, dtPur, dTake, dGetA, dGetB, dApp, dPop, dPopAt, dIns0, dItemO, dIsi, dSl, dpN, dpS, dSortSet, dMinP, dLstRg, dTupRg, dF0, dF1,
  diSeq, diRng1, diRng2, diZip, diEnum, diRev, dgName, dgTup, setAll, setM, endF0, endF1, envF0, envF1, wipeE, dtYes, fls, mineD, putE, Sl.put, Sl.seen, x_itT, x_itL, x_itS,
  List.map_cons, List.map_nil, List.length_cons, List.length_nil, List.getElem?_cons_zero, List.getElem?_cons_succ, List.set_cons_zero, List.set_cons_succ, List.replicate, List.append_assoc, List.cons_append, List.nil_append,
  Option.some.injEq, Sl.frz.injEq, Sl.own.injEq, Sl.par.injEq, D.int.injEq, D.bl.injEq, D.tup.injEq, D.lst.injEq, D.dI.injEq, D.dT.injEq, List.cons.injEq, exists_eq_left', exists_eq_left, exists_eq_right, exists_eq_right', exists_eq, exists_eq', Int.reducePow, Int.reduceNeg, Int.reduceLT, Int.reduceLE, Int.reduceMul, Int.reduceAdd, Int.reduceSub, Int.reduceToNat, Nat.reducePow, x_na10, or_true, true_or, and_self, x_set0, x_set1, x_ixN20, x_ixN21, and_true, true_and, Nat.reduceAdd, Nat.reduceSub, Nat.reduceLT, Nat.reduceLeDiff, Int.reduceEq, decide_true, decide_false, Int.cast_ofNat_Int,
  x_sub, x_add, x_addT, x_mul, x_div, x_mod, x_pow, x_le, x_gt, x_ge, x_lt, x_neg, x_catL, x_eq, x_ne, x_isN, x_notN, x_isB, x_notB, x_lenT, x_lenL, x_lenS, x_min, x_max, x_intI, x_intB, x_tupL, x_tupT, x_lstL, x_lstT, x_ixT0, x_ixT1, x_ixL0, x_ixL1, tru_non, tru_bl, tru_int, tru_tup, tru_lst, ty_non, ty_bl, ty_int, ty_str, ty_tup, ty_lst, x_slT, x_slL, and_assoc, exists_and_left, imm, imms,
  reduceIte, Bool.not_true, Bool.not_false, Bool.false_eq_true, Option.map_some, if_true, if_false, false_and, and_false, reduceCtorEq, exists_const, exists_false, false_or, or_false, Bool.true_and, Bool.and_true])
local macro_rules
  | `(tactic| subst_eqs) => `(tactic| simp (config := { failIfUnchanged := false }) only [x_w0, x_w1, x_ty, x_tyT, x_truT, x_lenI, x_itI, Option.some.injEq, exists_eq_left', isi1, isi2, isi3, isi4, isi5, isi6, isi7, isi8, isi9, isi10, isi11, isi12, isi13, isi14, isi15, isi16, isi17, isi18, isi19, isi20, isi21, isi22, isi23, isi24, Bool.not_true, Bool.not_false, if_true, if_false, Bool.false_eq_true, reduceIte])
local macro_rules
  | `(tactic| ac_rfl) => `(tactic| (try and_intros; try subst_eqs; try and_intros; try subst_eqs; try and_intros))
theorem eq_strs (s : PySem.Str) : ∀ n : Nat, eqDs (List.replicate n (D.str s)) (List.replicate n (D.str s)) = true
  | 0 => rfl
  | n + 1 => by
    show ((s == s) && eqDs (List.replicate n (D.str s)) (List.replicate n (D.str s))) = true
    rw [eq_strs s n]
    simp
theorem pl_strs {s : PySem.Str} (h : PyData.strOk s = true) (n m : Nat) : plDs m (List.replicate n (D.str s)) = true := plDs_iff.mpr fun d hd => by
  rw [List.eq_of_mem_replicate hd]
  cases m <;> exact h
theorem ne_strs {s : PySem.Str} (h : PyData.strOk s = true) (n : Nat) : neOp (.lst (List.replicate n (.str s))) (.lst (List.replicate n (.str s))) = some (.bl false) := by
  unfold neOp
  rw [if_pos ⟨pl_strs h n 59, pl_strs h n 59⟩]
  have : eqD (.lst (List.replicate n (.str s))) (.lst (List.replicate n (.str s))) = true := eq_strs s n
  rw [this]; rfl
theorem eqo_strs {s : PySem.Str} (h : PyData.strOk s = true) (n : Nat) : eqOp (.lst (List.replicate n (.str s))) (.lst (List.replicate n (.str s))) = some (.bl true) := by
  unfold eqOp
  rw [if_pos ⟨pl_strs h n 59, pl_strs h n 59⟩]
  have : eqD (.lst (List.replicate n (.str s))) (.lst (List.replicate n (.str s))) = true := eq_strs s n
  rw [this]
theorem ne_str {s : PySem.Str} (h : PyData.strOk s = true) : neOp (.str s) (.str s) = some (.bl false) := by
  unfold neOp
  rw [if_pos ⟨h, h⟩]
  have : eqD (.str s) (.str s) = true := by rw [eqD]; simp
  rw [this]; rfl
theorem ok1 : PyData.strOk "NoWarren" = true := by decide +kernel
theorem ok2 : PyData.strOk "NoLookers" = true := by decide +kernel
theorem ok3 : PyData.strOk "NoLot" = true := by decide +kernel
theorem ok4 : PyData.strOk "NoPlan" = true := by decide +kernel
theorem fm_rep (s : PySem.Str) : ∀ l : List D, l.filterMap (fun _ => some (D.str s)) = List.replicate l.length (D.str s)
  | [] => rfl
  | a :: l => by rw [List.filterMap_cons, List.length_cons, List.replicate_succ, fm_rep s l]
theorem rep_str (s : PySem.Str) {n : Nat} (hn : n ≤ 1000) : repL (.lst [.str s]) (.int n) = some (.lst (List.replicate n (D.str s))) := by
  show (if 0 ≤ (n : Int) ∧ (n : Int) < 1000000000 ∧ [D.str s].length * (n : Int).toNat ≤ 16777216 then some (D.lst (List.replicate (n : Int).toNat [D.str s]).flatten) else none) = _
  rw [if_pos ⟨by omega, by omega, by simp; omega⟩, Int.toNat_natCast]
  congr 2
  induction n with
  | zero => rfl
  | succ n ih => rw [List.replicate_succ, List.flatten_cons, ih (by omega), List.replicate_succ]; rfl
theorem rep_tup : repL (.lst [.tup []]) (.int 1024) = some (.lst (List.replicate 1024 (.tup []))) := by
  show (if 0 ≤ (1024 : Int) ∧ (1024 : Int) < 1000000000 ∧ [D.tup []].length * (1024 : Int).toNat ≤ 16777216 then some (D.lst (List.replicate (1024 : Int).toNat [D.tup []]).flatten) else none) = _
  rw [if_pos (by decide)]
  have : ∀ n, (List.replicate n [D.tup []]).flatten = List.replicate n (D.tup []) := fun n => by
    induction n with
    | zero => rfl
    | succ n ih => rw [List.replicate_succ, List.flatten_cons, ih, List.replicate_succ]; rfl
  rw [this]
  rfl
theorem bad_plan {w : Wn} (hlo : 2 ≤ w.n) {q : D} (hq : q ∈ [D.non, .tup [], .lst [.non], .lst [.tup [.int 0, .int 0]], .lst (List.replicate 1024 (.tup [])), .lst [.lst [.int 0]]]) : PlanIn q ∧ isPlanD w.n 4 q = false := by
  simp only [List.mem_cons, List.not_mem_nil, or_false] at hq
  rcases hq with rfl | rfl | rfl | rfl | rfl | rfl
  · exact ⟨⟨rfl, trivial⟩, rfl⟩
  · exact ⟨⟨rfl, trivial⟩, rfl⟩
  · exact ⟨⟨rfl, by simp⟩, rfl⟩
  · refine ⟨⟨rfl, by simp⟩, ?_⟩
    have : goodLotD w.n (.tup [.int 0, .int 0]) = false := by
      show (_ && incrD [D.int 0, .int 0]) = false
      rw [show incrD [D.int 0, .int 0] = false from rfl, Bool.and_false]
    have h2 : lotsOf w.n 4 [D.tup [.int 0, .int 0]] = false := by
      unfold lotsOf
      rw [List.all_cons, this, Bool.false_and, Bool.false_and]
    show (decide ([D.tup [.int 0, .int 0]].length ≤ 1023) && lotsOf w.n 4 [D.tup [.int 0, .int 0]]) = false
    rw [h2, Bool.and_false]
  · refine ⟨⟨?_, ?_⟩, ?_⟩
    · show plDs 40 (List.replicate 1024 (.tup [])) = true
      exact plDs_iff.mpr fun d hd => by rw [List.eq_of_mem_replicate hd]; rfl
    · refine ⟨by rw [List.length_replicate]; decide, fun e he => ?_⟩
      rw [List.eq_of_mem_replicate he]
      show 0 ≤ 1000
      decide
    · show (decide ((List.replicate 1024 (D.tup [])).length ≤ 1023) && lotsOf w.n 4 (List.replicate 1024 (D.tup []))) = false
      rw [List.length_replicate, decide_eq_false (by decide), Bool.false_and]
  · exact ⟨⟨rfl, by simp⟩, rfl⟩
theorem p_law_doors_right (ds : List D) (k : D → Prop) (x : Ex → Prop) (h : fDoors ds k x) : ds.length = 1 ∧ t__law_doors_right fLawKind (endF0 false k x) (envF0 ["warren", "holes", "bad", "plans", "way"] ds) := by
  obtain ⟨w, rfl, ok, hk⟩ := h
  refine ⟨rfl, ?_⟩
  have hE := len_E ok
  unfold t__law_doors_right
  ac_rfl
  have hlo := ok.lo
  have hhi := ok.hi
  refine for_go [.non, .lst [.int w.n, .tup (w.E.map prE)], .tup [.int w.n, .tup []], .tup [.int 11, .tup (w.E.map prE)], .tup [.int w.n, .tup (w.E.map prE ++ [.tup [.int 0, .int 1], .tup [.int 0, .int 1]])]] [Sl.frz (wD w), Sl.frz (.int w.n), .no, .no, .no]
    (fun i env => ∃ s2, env = [Sl.frz (wD w), Sl.frz (.int w.n), s2, .no, .no]) (fun K hK => by
      ac_rfl
      have e : addA (.tup (w.E.map prE)) (.tup [.tup [.int 0, .int 1], .tup [.int 0, .int 1]]) = some (.tup (w.E.map prE ++ [.tup [.int 0, .int 1], .tup [.int 0, .int 1]])) := by
        show (if (w.E.map prE).length + [D.tup [D.int 0, .int 1], .tup [.int 0, .int 1]].length ≤ 16777216 then _ else none) = _
        rw [if_pos (by simp; omega)]
      exact ⟨.lst [.int w.n, .tup (w.E.map prE)], rfl, .tup [.tup [.int 0, .int 1], .tup [.int 0, .int 1]], rfl, _, e, hK⟩) ⟨_, rfl⟩ (fun i d env hd hI => ?_) (fun env hI => ?_)
  · obtain ⟨s2, rfl⟩ := hI
    have hbad : BadW d := by
      have hm := List.mem_of_getElem? hd
      simp only [List.mem_cons, List.not_mem_nil, or_false] at hm
      rcases hm with rfl | rfl | rfl | rfl | rfl
      · exact badW_non
      · exact badW_lst ok
      · exact badW_no ok
      · exact badW_11 ok
      · exact badW_two ok
    ac_rfl
    refine lc_go (rangeL 0 7) _ (fun _ => some (.str "NoWarren")) (fun K hK => by ac_rfl; exact hK) (by decide) (fun q hq J hJ => ?_) ?_
    · obtain ⟨j, hj⟩ := List.getElem?_of_mem hq
      obtain ⟨rfl, hj⟩ := rangeL2 _ _ hj
      ac_rfl
      exact ⟨_, _, _, _, "NoWarren", rfl, .inl ⟨⟨by omega, by omega⟩, hbad, rfl⟩, hJ⟩
    · rw [fm_rep]
      ac_rfl
      refine ⟨_, rep_str "NoWarren" (n := 7) (by decide), ?_⟩
      refine ⟨_, ne_strs ok1 7, ?_⟩
      ac_rfl
  · obtain ⟨s2, rfl⟩ := hI
    ac_rfl
    refine for_go [.int 0, .int 5, .non, .bl true] [Sl.frz (wD w), Sl.frz (.int w.n), s2, .no, .no]
      (fun i env => ∃ s2, env = [Sl.frz (wD w), Sl.frz (.int w.n), s2, .no, .no]) (fun K hK => by ac_rfl; exact hK) ⟨_, rfl⟩ (fun i d env hd hI => ?_) (fun env hI => ?_)
    · obtain ⟨s2, rfl⟩ := hI
      have hbad : BadM d := by
        have hm := List.mem_of_getElem? hd
        simp only [List.mem_cons, List.not_mem_nil, or_false] at hm
        rcases hm with rfl | rfl | rfl | rfl <;> exact ⟨⟨rfl, rfl⟩, rfl⟩
      ac_rfl
      refine lc_go [.int 1, .int 2, .int 4, .int 5] _ (fun _ => some (.str "NoLookers")) (fun K hK => by ac_rfl; exact hK) (by decide) (fun q hq J hJ => ?_) ?_
      · obtain ⟨j, rfl, hj⟩ : ∃ j : Int, q = .int j ∧ (j = 1 ∨ j = 2 ∨ j = 4 ∨ j = 5) := by
          simp only [List.mem_cons, List.not_mem_nil, or_false] at hq
          rcases hq with rfl | rfl | rfl | rfl
          · exact ⟨_, rfl, by omega⟩
          · exact ⟨_, rfl, by omega⟩
          · exact ⟨_, rfl, by omega⟩
          · exact ⟨_, rfl, by omega⟩
        ac_rfl
        exact ⟨_, _, _, _, "NoLookers", rfl, .inr (.inl ⟨hj, rfl, w, rfl, ok, hbad⟩), hJ⟩
      · rw [fm_rep]
        ac_rfl
        refine ⟨_, rep_str "NoLookers" (n := 4) (by decide), ?_⟩
        refine ⟨_, ne_strs ok2 4, ?_⟩
        ac_rfl
    · obtain ⟨s2, rfl⟩ := hI
      ac_rfl
      refine for_go [.non, .lst [.int 0], .tup [.int w.n], .tup [.int (-1)], .tup [.int 1, .int 0], .tup [.int 0, .int 0], .tup [.bl true]] [Sl.frz (wD w), Sl.frz (.int w.n), s2, .no, .no]
        (fun i env => ∃ s2, env = [Sl.frz (wD w), Sl.frz (.int w.n), s2, .no, .no]) (fun K hK => by ac_rfl; exact hK) ⟨_, rfl⟩ (fun i d env hd hI => ?_) (fun env hI => ?_)
      · obtain ⟨s2, rfl⟩ := hI
        have hbad : BadL w d := by
          have hm := List.mem_of_getElem? hd
          simp only [List.mem_cons, List.not_mem_nil, or_false] at hm
          rcases hm with rfl | rfl | rfl | rfl | rfl | rfl | rfl
          · exact ⟨⟨rfl, rfl⟩, rfl⟩
          · exact ⟨⟨rfl, rfl⟩, rfl⟩
          · refine ⟨⟨rfl, rfl⟩, ?_⟩
            show ([D.int w.n].all (fun e => isFromD e 0 ((w.n : Int) - 1)) && _) = false
            have : isFromD (.int w.n) 0 ((w.n : Int) - 1) = false := by simp [isFromD]; omega
            rw [List.all_cons, this, Bool.false_and, Bool.false_and]
          · exact ⟨⟨rfl, rfl⟩, rfl⟩
          · refine ⟨⟨rfl, rfl⟩, ?_⟩
            show (_ && incrD [D.int 1, .int 0]) = false
            rw [show incrD [D.int 1, .int 0] = false from rfl, Bool.and_false]
          · refine ⟨⟨rfl, rfl⟩, ?_⟩
            show (_ && incrD [D.int 0, .int 0]) = false
            rw [show incrD [D.int 0, .int 0] = false from rfl, Bool.and_false]
          · exact ⟨⟨rfl, rfl⟩, rfl⟩
        ac_rfl
        refine lc_go [.int 0, .int 3] _ (fun _ => some (.str "NoLot")) (fun K hK => by ac_rfl; exact hK) (by decide) (fun q hq J hJ => ?_) ?_
        · obtain ⟨j, rfl, hj⟩ : ∃ j : Int, q = .int j ∧ (j = 0 ∨ j = 3) := by
            simp only [List.mem_cons, List.not_mem_nil, or_false] at hq
            rcases hq with rfl | rfl
            · exact ⟨_, rfl, by omega⟩
            · exact ⟨_, rfl, by omega⟩
          ac_rfl
          exact ⟨_, _, _, _, "NoLot", rfl, .inr (.inr (.inl ⟨hj, rfl, w, rfl, ok, hbad⟩)), hJ⟩
        · rw [fm_rep]
          ac_rfl
          refine ⟨_, rep_str "NoLot" (n := 2) (by decide), ?_⟩
          refine ⟨_, ne_strs ok3 2, ?_⟩
          ac_rfl
          refine lc_go [.int 1, .int 2, .int 4] _ (fun _ => some (.str "NoLot")) (fun K hK => by ac_rfl; exact hK) (by decide) (fun q hq J hJ => ?_) ?_
          · obtain ⟨j, rfl, hj⟩ : ∃ j : Int, q = .int j ∧ (j = 1 ∨ j = 2 ∨ j = 4) := by
              simp only [List.mem_cons, List.not_mem_nil, or_false] at hq
              rcases hq with rfl | rfl | rfl
              · exact ⟨_, rfl, by omega⟩
              · exact ⟨_, rfl, by omega⟩
              · exact ⟨_, rfl, by omega⟩
            ac_rfl
            exact ⟨_, _, _, _, "NoLot", rfl, .inr (.inr (.inr (.inl ⟨hj, rfl, w, 1, rfl, rfl, ok, ⟨by decide, by decide⟩, hbad⟩))), hJ⟩
          · rw [fm_rep]
            ac_rfl
            refine ⟨_, rep_str "NoLot" (n := 3) (by decide), ?_⟩
            refine ⟨_, ne_strs ok3 3, ?_⟩
            ac_rfl
            refine ⟨_, _, _, _, "NoLot", rfl, .inr (.inr (.inr (.inr (.inl ⟨rfl, rfl, w, [], rfl, rfl, ok, ⟨List.Pairwise.nil, fun z hz => nomatch hz⟩, hbad⟩)))), ?_⟩
            refine ⟨_, ne_str ok3, ?_⟩
            ac_rfl
      · obtain ⟨s2, rfl⟩ := hI
        ac_rfl
        have hz0 : LotOk w.n [0] := ⟨List.pairwise_singleton _ _, fun z hz => by
          have : z = 0 := by simpa using hz
          omega⟩
        refine ⟨.lst (List.replicate 1024 (.tup [])), rep_tup, ?_⟩
        refine lc_go [.non, .tup [], .lst [.non], .lst [.tup [.int 0, .int 0]], .lst (List.replicate 1024 (.tup [])), .lst [.lst [.int 0]]] _ (fun _ => some (.str "NoPlan")) (fun K hK => by ac_rfl; exact hK) (by decide) (fun q hq J hJ => ?_) ?_
        · have hp : PlanIn q ∧ isPlanD w.n 4 q = false := bad_plan hlo hq
          ac_rfl
          exact ⟨_, _, _, _, "NoPlan", rfl, .inr (.inr (.inr (.inr (.inr ⟨rfl, rfl, w, [0], rfl, rfl, ok, hz0, hp.1, hp.2⟩)))), hJ⟩
        · rw [fm_rep]
          ac_rfl
          refine ⟨_, rep_str "NoPlan" (n := 6) (by decide), ?_⟩
          exact ⟨_, eqo_strs ok4 6, hk⟩
end K01

set_option Elab.async false
set_option linter.all false
set_option maxRecDepth 100000
set_option maxHeartbeats 4000000
namespace MA
open FX
def fLaw1 : F0 := fun ds k _ => ∃ ns : List Int, ds = [.scr ns] ∧ k (.bl true)
theorem pl_wD3 {w : Wn} (ok : WOk w) : plD 3 (wD w) = true ∧ thg 100 (wD w) = true := by
  refine ⟨?_, ?_⟩
  · show plDs 2 [D.int w.n, .tup (w.E.map prE)] = true
    rw [plDs_iff]
    intro d hd
    rcases List.mem_cons.mp hd with rfl | hd
    · rfl
    · rw [List.mem_singleton.mp hd]
      show plDs 1 (w.E.map prE) = true
      rw [plDs_iff]
      intro d hd
      obtain ⟨p, _, rfl⟩ := List.mem_map.mp hd
      exact pl_tupI 0 [p.1, p.2]
  · have hl := len_E ok
    have h : thgs 100 (w.E.map prE) = true := thgs_iff.mpr fun d hd => by
      obtain ⟨p, _, rfl⟩ := List.mem_map.mp hd
      rfl
    show (decide ([D.int w.n, .tup (w.E.map prE)].length ≤ 100) && (true && ((decide ((w.E.map prE).length ≤ 100) && thgs 100 (w.E.map prE)) && true))) = true
    rw [h, List.length_map, decide_eq_true (show [D.int w.n, D.tup (w.E.map prE)].length ≤ 100 from by simp), decide_eq_true (show w.E.length ≤ 100 by omega)]
    rfl
theorem pl_lot3 {S : List Int} (h : S.length ≤ 100) : plD 3 (tupI S) = true ∧ thg 100 (tupI S) = true := by
  refine ⟨pl_tupI 2 S, ?_⟩
  have q : thgs 100 (S.map D.int) = true := thgs_iff.mpr fun d hd => by
    obtain ⟨z, _, rfl⟩ := List.mem_map.mp hd
    rfl
  show (decide ((S.map D.int).length ≤ 100) && thgs 100 (S.map D.int)) = true
  rw [q, List.length_map, decide_eq_true h]
  rfl
theorem pl_ten {n : Int} {acc : List D} (hl : acc.length ≤ 1000) (h : ∀ d ∈ acc, ∃ z : Int, d = .tup [.int 0, .int z]) : Pl (.tup [.int n, .tup acc]) := by
  refine ⟨?_, ?_⟩
  · show plDs 37 [D.int n, .tup acc] = true
    rw [plDs_iff]
    intro d hd
    rcases List.mem_cons.mp hd with rfl | hd
    · rfl
    · rw [List.mem_singleton.mp hd]
      show plDs 36 acc = true
      rw [plDs_iff]
      intro d hd
      obtain ⟨z, rfl⟩ := h d hd
      rfl
  · have q : thgs 1000 acc = true := thgs_iff.mpr fun d hd => by
      obtain ⟨z, rfl⟩ := h d hd
      rfl
    show (decide ([D.int n, .tup acc].length ≤ 1000) && (true && ((decide (acc.length ≤ 1000) && thgs 1000 acc) && true))) = true
    rw [q, decide_eq_true hl]
    rfl
theorem ne_bools (a b : Bool) : neOp (.lst [.bl a, .bl b]) (.lst [.bl a, .bl b]) = some (.bl false) := by
  cases a <;> cases b <;> rfl
theorem ne_selfT (S : List Int) : neOp (tupI S) (tupI S) = some (.bl false) := by
  unfold neOp
  rw [if_pos ⟨pl_tupI _ _, pl_tupI _ _⟩, eqD_tupI]
  simp
theorem draw_yes {S : List Int} {l : Nat} (hS : Asc S) (hb : ∀ z ∈ S, 0 ≤ z ∧ z < (l : Int)) (hl : S.length ≤ l) : ∃ T : List Int, S.map D.int ++ [D.int (0 + (l : Int))] = T.map D.int ∧ Asc T ∧ (∀ z ∈ T, 0 ≤ z ∧ z < ((l + 1 : Nat) : Int)) ∧ T.length ≤ l + 1 := by
  refine ⟨S ++ [0 + (l : Int)], by simp, List.pairwise_append.mpr ⟨hS, List.pairwise_singleton _ _, fun a ha b hb' => ?_⟩, fun z hz => ?_, by simp; omega⟩
  · have := hb a ha
    rw [List.mem_singleton.mp hb']; omega
  · rcases List.mem_append.mp hz with h | h
    · have := hb z h; omega
    · rw [List.mem_singleton.mp h]; omega
theorem draw_no {S : List Int} {l : Nat} (hS : Asc S) (hb : ∀ z ∈ S, 0 ≤ z ∧ z < (l : Int)) (hl : S.length ≤ l) : ∃ T : List Int, S.map D.int = T.map D.int ∧ Asc T ∧ (∀ z ∈ T, 0 ≤ z ∧ z < ((l + 1 : Nat) : Int)) ∧ T.length ≤ l + 1 :=
  ⟨S, rfl, hS, fun z hz => by have := hb z hz; omega, by omega⟩
theorem covw {w : Wn} (h : (upto w.n).all (fun i => w.E.any fun p => decide (i = p.1 ∨ i = p.2)) = true) : ∀ i : Int, 0 ≤ i → i < w.n → ∃ p ∈ w.E, i = p.1 ∨ i = p.2 := fun i h0 h1 => by
  obtain ⟨p, hp, e⟩ := List.any_eq_true.mp (List.all_eq_true.mp h i (mem_upto.mpr ⟨h0, h1⟩))
  exact ⟨p, hp, of_decide_eq_true e⟩
theorem path3_ok : WOk ⟨3, [(0, 1), (1, 2)]⟩ := ⟨by decide, by decide, by simp [ltE], by decide, covw (by decide)⟩
theorem two_ok : WOk ⟨2, [(0, 1)]⟩ := ⟨by decide, by decide, by simp [ltE], by decide, covw (by decide)⟩
theorem path3_later : eqOp (tupI (later ⟨3, [(0, 1), (1, 2)]⟩ [0, 1] [1])) (.tup [.int 1]) = some (.bl true) := by
  have e : later ⟨3, [(0, 1), (1, 2)]⟩ [0, 1] [1] = [1] := by decide +kernel
  rw [e]; rfl
theorem two_later : eqOp (tupI (later ⟨2, [(0, 1)]⟩ [] [0])) (.tup []) = some (.bl true) := by
  have e : later ⟨2, [(0, 1)]⟩ [] [0] = [] := by decide +kernel
  rw [e]; rfl
end MA
namespace K01
open PySem PySem.Spec PyProof.Rows L2 FX MA
local macro_rules
  | `(tactic| and_intros) => `(tactic| simp (config := { failIfUnchanged := false }) only [sNext, sSeq, sRet, sRetN, sRetOwn, sAsg, sAsgO, sExpr, sIf, sBreak, sCont, sFreeze, sPar, sUnp, sSetL, sPutD, sAugI, sAugL,
  dVar, dC, dOp, dUn, daNil, daCons, dTup, dLst, dCall, dtB, dtTru, dtNot, dtAnd, dtOr, dAndV, dOrV, dNotV, dIf, dChain, dPur, dPurF, dtPur, dTake, dGetA, dGetB, dApp, dPop, dPopAt, dIns0, dItemO, dIsi, dSl, dpN, dpS, dSortSet, dMinP, dLstRg, dTupRg, dF0, dF1,
  diSeq, diRng1, diRng2, diZip, diEnum, diRev, dgName, dgTup, setAll, setM, endF0, endF1, envF0, envF1, wipeE, dtYes, fls, mineD, putE, Sl.put, Sl.seen, x_itT, x_itL, x_itS,
  List.map_cons, List.map_nil, List.length_cons, List.length_nil, List.getElem?_cons_zero, List.getElem?_cons_succ, List.set_cons_zero, List.set_cons_succ, List.replicate, List.append_assoc, List.cons_append, List.nil_append,
  Option.some.injEq, Sl.frz.injEq, Sl.own.injEq, Sl.par.injEq, D.int.injEq, D.bl.injEq, D.tup.injEq, D.lst.injEq, D.dI.injEq, D.dT.injEq, List.cons.injEq, exists_eq_left', exists_eq_left, exists_eq_right, exists_eq_right', exists_eq, exists_eq', Int.reducePow, Int.reduceNeg, Int.reduceLT, Int.reduceLE, Int.reduceMul, Int.reduceAdd, Int.reduceSub, Int.reduceToNat, Nat.reducePow, x_na10, or_true, true_or, and_self, x_set0, x_set1, x_ixN20, x_ixN21, and_true, true_and, Nat.reduceAdd, Nat.reduceSub, Nat.reduceLT, Nat.reduceLeDiff, Int.reduceEq, decide_true, decide_false, Int.cast_ofNat_Int,
  x_sub, x_add, x_addT, x_mul, x_div, x_mod, x_pow, x_le, x_gt, x_ge, x_lt, x_neg, x_catL, x_eq, x_ne, x_isN, x_notN, x_isB, x_notB, x_lenT, x_lenL, x_lenS, x_min, x_max, x_intI, x_intB, x_tupL, x_tupT, x_lstL, x_lstT, x_ixT0, x_ixT1, x_ixL0, x_ixL1, tru_non, tru_bl, tru_int, tru_tup, tru_lst, ty_non, ty_bl, ty_int, ty_str, ty_tup, ty_lst, x_slT, x_slL, and_assoc, exists_and_left, imm, imms,
  reduceIte, Bool.not_true, Bool.not_false, Bool.false_eq_true, Option.map_some, if_true, if_false, false_and, and_false, reduceCtorEq, exists_const, exists_false, false_or, or_false, Bool.true_and, Bool.and_true])
local macro_rules
  | `(tactic| subst_eqs) => `(tactic| simp (config := { failIfUnchanged := false }) only [x_w0, x_w1, x_ty, x_tyT, x_truT, x_lenI, x_itI, Option.some.injEq, exists_eq_left', isi1, isi2, isi3, isi4, isi5, isi6, isi7, isi8, isi9, isi10, isi11, isi12, isi13, isi14, isi15, isi16, isi17, isi18, isi19, isi20, isi21, isi22, isi23, isi24, Bool.not_true, Bool.not_false, if_true, if_false, Bool.false_eq_true, reduceIte])
local macro_rules
  | `(tactic| ac_rfl) => `(tactic| (try and_intros; try subst_eqs; try and_intros; try subst_eqs; try and_intros))
def fLaw : F0 := fLaw1
abbrev fIsLot : F0 := fIsLotX
abbrev fBehind : F0 := fBehindC
theorem p_law (ds : List D) (k : D → Prop) (x : Ex → Prop) (h : fLaw ds k x) : ds.length = 1 ∧ t_law fBag fLawWarren fTake (fBent 4) fOf fIsLotX fIsWarrenG fLawIsLot fLawIsWarren fBehindC fLawLater fDoors (endF0 false k x) (envF0 ["script", "k", "bag", "warren", "where", "things", "holes", "thing", "told", "turn", "lot_so", "hole", "one"] ds) := by
  obtain ⟨ns, rfl, hk⟩ := h
  refine ⟨rfl, ?_⟩
  unfold t_law
  ac_rfl
  refine for_go (rangeL 0 (min (ns.length : Int) 8 + 2)) [Sl.frz (.scr ns), .no, .no, .no, .no, .no, .no, .no, .no, .no, .no, .no, .no]
    (fun i env => ∃ s1 s2 s3 s4 s5 s6 s7 s8 s9 s10, env = [Sl.frz (.scr ns), s1, s2, s3, s4, s5, s6, s7, s8, s9, s10, .no, .no])
    (fun K hK => by ac_rfl; exact ⟨by omega, by omega, hK⟩) ⟨_, _, _, _, _, _, _, _, _, _, rfl⟩ (fun i d env hd hI => ?_) (fun env hI => ?_)
  · obtain ⟨s1, s2, s3, s4, s5, s6, s7, s8, s9, s10, rfl⟩ := hI
    obtain ⟨rfl, hi⟩ := rangeL2 _ _ hd
    have z : (0 : Int) + (i : Int) = i := by omega
    rw [z] at hi ⊢
    ac_rfl
    refine ⟨ns, i, rfl, by omega, fun x y hb => ?_⟩
    ac_rfl
    refine ⟨_, _, _, rfl, hb, rfl, ⟨by decide, by decide⟩, fun w x y ok hwn hb => ?_⟩
    have hlo := ok.lo
    have hhi := ok.hi
    ac_rfl
    refine lc_any (fun items e => items = rangeL 0 w.n ∧ e = [Sl.frz (.scr ns), Sl.frz (.int i), Sl.own (bagD x y), Sl.frz (wD w), s4, s5, s6, s7, s8, s9, s10, .no, .no])
      (fun K hK => by ac_rfl; exact ⟨by omega, by omega, hK _ _ ⟨rfl, rfl⟩⟩) (fun items e hP => ?_)
    obtain ⟨rfl, rfl⟩ := hP
    refine ⟨by rw [rangeL_len]; omega, fun l acc env => ∃ x y S, env = [Sl.frz (.scr ns), Sl.frz (.int i), Sl.own (bagD x y), Sl.frz (wD w), s4, s5, s6, s7, s8, s9, s10, .no, .no] ∧ BagOk x y ∧ acc = S.map D.int ∧ Asc S ∧ (∀ z ∈ S, 0 ≤ z ∧ z < (l : Int)) ∧ S.length ≤ l,
      ⟨x, y, [], rfl, hb, rfl, .nil, ⟨fun z h => (nomatch h), Nat.le_refl _⟩⟩, fun l d' acc env hd' hI => ?_, fun acc env hI => ?_⟩
    · obtain ⟨x, y, S, rfl, hb, rfl, hS, hSb, hSl⟩ := hI
      obtain ⟨rfl, hl⟩ := rangeL2 _ _ hd'
      ac_rfl
      refine ⟨_, _, _, rfl, hb, rfl, ⟨by decide, by decide⟩, fun r x y hr0 hr1 hb => ?_⟩
      ac_rfl
      by_cases c : r = 0
      · rw [decide_eq_true c, if_pos rfl]
        exact ⟨x, y, rfl, hb, draw_yes hS hSb hSl⟩
      · rw [decide_eq_false c, if_neg Bool.false_ne_true]
        exact ⟨x, y, rfl, hb, draw_no hS hSb hSl⟩
    · obtain ⟨x, y, S, rfl, hb, rfl, hS, hSb, hSl⟩ := hI
      rw [rangeL_len] at hSb hSl
      have hSo : LotOk w.n S := ⟨hS, fun z hz => by have := hSb z hz; omega⟩
      have hSlen : S.length ≤ 10 := by omega
      ac_rfl
      refine ⟨.lst [.int w.n, .tup (w.E.map prE)], rfl, ?_⟩
      unfold dBack
      ac_rfl
      generalize hth0 : [wD w, D.lst [D.int w.n, D.tup (List.map prE w.E)], D.tup (List.map D.int S), D.lst (List.map D.int S), D.tup (List.map D.int S).reverse, D.tup [], D.non, D.int 3, D.tup [D.int 2, D.tup [D.tup [D.int 0, D.int 1]]], D.tup [D.int 2, D.tup []], D.tup [D.int 1, D.tup []]] = th0
      have hl0 : th0.length = 11 := by rw [← hth0]; rfl
      have hp0 : ∀ d ∈ th0, Pl d := fun d hd => by
        rw [← hth0] at hd
        simp only [List.mem_cons, List.not_mem_nil, or_false] at hd
        rcases hd with rfl | rfl | rfl | rfl | rfl | rfl | rfl | rfl | rfl | rfl | rfl
        · exact pl_wD ok
        · exact ⟨(pl_wD ok).1, (pl_wD ok).2⟩
        · exact pl_lot (by omega)
        · have p := pl_lot (S := S) (by omega)
          exact ⟨p.1, p.2⟩
        · rw [← List.map_reverse]
          exact pl_lot (by rw [List.length_reverse]; omega)
        all_goals exact ⟨rfl, rfl⟩
      clear hth0
      -- what is bent
      refine lc_any (fun items e => items = rangeL 0 10 ∧ e = [Sl.frz (.scr ns), Sl.frz (.int i), Sl.own (bagD x y), Sl.frz (wD w), Sl.frz (tupI S), Sl.frz (.lst th0), s6, s7, s8, s9, s10, .no, .no])
        (fun K hK => by ac_rfl; exact hK _ _ ⟨rfl, rfl⟩) (fun items e hP => ?_)
      obtain ⟨rfl, rfl⟩ := hP
      refine ⟨by rw [rangeL_len]; omega, fun l acc env => ∃ x y, env = [Sl.frz (.scr ns), Sl.frz (.int i), Sl.own (bagD x y), Sl.frz (wD w), Sl.frz (tupI S), Sl.frz (.lst th0), s6, s7, s8, .no, s10, .no, .no] ∧ BagOk x y ∧ acc.length = l ∧ ∀ d ∈ acc, Pl d,
        ⟨x, y, rfl, hb, rfl, fun z h => nomatch h⟩, fun l d' acc env hd' hI => ?_, fun acc env hI => ?_⟩
      · obtain ⟨x, y, rfl, hb, hal, hacc⟩ := hI
        ac_rfl
        refine ⟨_, _, _, rfl, hb, .inl rfl, by simp, by simp, fun d1 x y hd1 hb => ?_⟩
        have hp1 : plD 3 d1 = true ∧ thg 100 d1 = true := by
          simp only [List.mem_cons, List.not_mem_nil, or_false] at hd1
          rcases hd1 with rfl | rfl | rfl
          · exact pl_wD3 ok
          · exact pl_wD3 ok
          · exact pl_lot3 (by omega)
        ac_rfl
        refine ⟨_, _, _, 100, rfl, hb, rfl, hp1.1, by decide, hp1.2, ⟨by decide, by decide⟩, fun d' x y hp ht hb => ?_⟩
        ac_rfl
        refine ⟨x, y, rfl, hb, by simp [hal], fun d hd => ?_⟩
        rcases List.mem_append.mp hd with h | h
        · exact hacc d h
        · rw [List.mem_singleton.mp h]
          exact ⟨pl_mono (by decide) _ hp, thg_mono (by decide) _ ht⟩
      · obtain ⟨x, y, rfl, hb, hal, hacc⟩ := hI
        rw [rangeL_len] at hal
        have hal : acc.length = 10 := hal
        ac_rfl
        rw [if_pos (by omega)]
        ac_rfl
        have hp1 : ∀ d ∈ th0 ++ acc, Pl d := fun d hd => (List.mem_append.mp hd).elim (hp0 d) (hacc d)
        have hl1 : (th0 ++ acc).length = 21 := by rw [List.length_append]; omega
        generalize th0 ++ acc = th1 at hp1 hl1 ⊢
        refine for_go [.int 10, .int 11] [Sl.frz (.scr ns), Sl.frz (.int i), Sl.own (bagD x y), Sl.frz (wD w), Sl.frz (tupI S), Sl.own (.lst th1), s6, s7, s8, .no, s10, .no, .no]
          (fun j env => ∃ s6 th, env = [Sl.frz (.scr ns), Sl.frz (.int i), Sl.own (bagD x y), Sl.frz (wD w), Sl.frz (tupI S), Sl.own (.lst th), s6, s7, s8, .no, s10, .no, .no] ∧ th.length = 21 + j ∧ ∀ d ∈ th, Pl d) (fun K hK => by ac_rfl; exact hK) ⟨_, th1, rfl, hl1, hp1⟩ (fun j d env hd hI => ?_) (fun env hI => ?_)
        · obtain ⟨s6, th, rfl, hlt, hpt⟩ := hI
          have hjl : j < 2 := (List.getElem?_eq_some_iff.mp hd).1
          obtain ⟨n, rfl, hn⟩ : ∃ n : Int, d = .int n ∧ (2 ≤ n ∧ n ≤ 11) := by
            have hm := List.mem_of_getElem? hd
            simp only [List.mem_cons, List.not_mem_nil, or_false] at hm
            rcases hm with rfl | rfl <;> exact ⟨_, rfl, by omega⟩
          ac_rfl
          refine lc_go (rangeL 1 n) _ (fun d => some (.tup [.int 0, d])) (fun K hK => by ac_rfl; exact ⟨by omega, by omega, hK⟩) (by rw [rangeL_len]; omega) (fun q hq J hJ => ?_) ?_
          · ac_rfl
            exact hJ
          · have hal : ∀ d ∈ (rangeL 1 n).filterMap (fun d => some (D.tup [.int 0, d])), ∃ z : Int, d = .tup [.int 0, .int z] := fun d hd => by
              obtain ⟨a, ha, e⟩ := List.mem_filterMap.mp hd
              obtain ⟨j, hj⟩ := List.getElem?_of_mem ha
              obtain ⟨rfl, _⟩ := rangeL2 _ _ hj
              exact ⟨_, (Option.some.inj e).symm⟩
            have hll : ((rangeL 1 n).filterMap (fun d => some (D.tup [.int 0, d]))).length ≤ 1000 := by
              have h1 := List.length_filterMap_le (fun d => some (D.tup [.int 0, d])) (rangeL 1 n)
              rw [rangeL_len] at h1
              omega
            ac_rfl
            refine ⟨by omega, ?_, fun d hd => ?_⟩
            · rw [List.length_append, List.length_singleton]; omega
            · rcases List.mem_append.mp hd with h | h
              · exact hpt d h
              · rw [List.mem_singleton.mp h]
                exact pl_ten hll hal
        · obtain ⟨s6, th, rfl, hlt, hpt⟩ := hI
          ac_rfl
          refine for_go th [Sl.frz (.scr ns), Sl.frz (.int i), Sl.own (bagD x y), Sl.frz (wD w), Sl.frz (tupI S), Sl.frz (.lst th), s6, s7, s8, .no, s10, .no, .no]
            (fun j env => ∃ s7 s8, env = [Sl.frz (.scr ns), Sl.frz (.int i), Sl.own (bagD x y), Sl.frz (wD w), Sl.frz (tupI S), Sl.frz (.lst th), s6, s7, s8, .no, s10, .no, .no]) (fun K hK => by ac_rfl; exact hK) ⟨_, _, rfl⟩ (fun j d env hd hI => ?_) (fun env hI => ?_)
          · obtain ⟨s7, s8, rfl⟩ := hI
            have hp : Pl d := hpt d (List.mem_of_getElem? hd)
            ac_rfl
            refine ⟨_, rfl, hp.1, hp.2, ?_⟩
            ac_rfl
            refine ⟨w, _, rfl, ok, hp.1, hp.2, ?_⟩
            ac_rfl
            refine ⟨_, rfl, hp, ?_⟩
            ac_rfl
            refine ⟨w, _, rfl, hp, ?_⟩
            ac_rfl
            refine ⟨_, ne_bools _ _, ?_⟩
            ac_rfl
            refine lc_go [.bl (isWarrenD d), .bl (goodLotD w.n d)] _ (fun _ => none) (fun K hK => by ac_rfl; exact hK) (by show 2 ≤ 1000000; omega) (fun q hq J hJ => ?_) ?_
            · obtain ⟨b, rfl⟩ : ∃ b, q = .bl b := by
                simp only [List.mem_cons, List.not_mem_nil, or_false] at hq
                rcases hq with rfl | rfl <;> exact ⟨_, rfl⟩
              ac_rfl
              exact hJ
            · ac_rfl
              refine ⟨.bl false, rfl, ?_⟩
              ac_rfl
          · obtain ⟨s7, s8, rfl⟩ := hI
            ac_rfl
            refine for_go (rangeL 0 6) [Sl.frz (.scr ns), Sl.frz (.int i), Sl.own (bagD x y), Sl.frz (wD w), Sl.frz (tupI S), Sl.frz (.lst th), s6, s7, s8, .no, s10, .no, .no]
              (fun j env => ∃ x y s9 s10, env = [Sl.frz (.scr ns), Sl.frz (.int i), Sl.own (bagD x y), Sl.frz (wD w), Sl.frz (tupI S), Sl.frz (.lst th), s6, s7, s8, s9, s10, .no, .no] ∧ BagOk x y) (fun K hK => by ac_rfl; exact hK) ⟨_, _, _, _, rfl, hb⟩ (fun j d env hd hI => ?_) (fun env hI => ?_)
            · obtain ⟨x, y, s9, s10, rfl, hb⟩ := hI
              ac_rfl
              refine lc_any (fun items e => items = rangeL 0 w.n ∧ e = [Sl.frz (.scr ns), Sl.frz (.int i), Sl.own (bagD x y), Sl.frz (wD w), Sl.frz (tupI S), Sl.frz (.lst th), s6, s7, s8, Sl.frz d, s10, .no, .no])
                (fun K hK => by ac_rfl; exact ⟨by omega, by omega, hK _ _ ⟨rfl, rfl⟩⟩) (fun items e hP => ?_)
              obtain ⟨rfl, rfl⟩ := hP
              refine ⟨by rw [rangeL_len]; omega, fun l acc env => ∃ x y T, env = [Sl.frz (.scr ns), Sl.frz (.int i), Sl.own (bagD x y), Sl.frz (wD w), Sl.frz (tupI S), Sl.frz (.lst th), s6, s7, s8, Sl.frz d, s10, .no, .no] ∧ BagOk x y ∧ acc = T.map D.int ∧ Asc T ∧ (∀ z ∈ T, 0 ≤ z ∧ z < (l : Int)) ∧ T.length ≤ l,
                ⟨x, y, [], rfl, hb, rfl, .nil, ⟨fun z h => (nomatch h), Nat.le_refl _⟩⟩, fun l d' acc env hd' hI => ?_, fun acc env hI => ?_⟩
              · obtain ⟨x, y, T, rfl, hb, rfl, hT, hTb, hTl⟩ := hI
                obtain ⟨rfl, hl⟩ := rangeL2 _ _ hd'
                ac_rfl
                refine ⟨_, _, _, rfl, hb, rfl, ⟨by decide, by decide⟩, fun r x y hr0 hr1 hb => ?_⟩
                ac_rfl
                by_cases c : r = 0
                · rw [decide_eq_true c, if_pos rfl]
                  exact ⟨x, y, rfl, hb, draw_yes hT hTb hTl⟩
                · rw [decide_eq_false c, if_neg Bool.false_ne_true]
                  exact ⟨x, y, rfl, hb, draw_no hT hTb hTl⟩
              · obtain ⟨x, y, T, rfl, hb, rfl, hT, hTb, hTl⟩ := hI
                rw [rangeL_len] at hTb hTl
                have hTo : LotOk w.n T := ⟨hT, fun z hz => by have := hTb z hz; omega⟩
                ac_rfl
                refine ⟨w, S, T, rfl, ok, hSo, hTo, ?_⟩
                ac_rfl
                refine ⟨w, S, T, rfl, ok, hSo, ?_⟩
                ac_rfl
                refine ⟨_, ne_selfT _, ?_⟩
                ac_rfl
                exact ⟨x, y, rfl, hb⟩
            · obtain ⟨x, y, s9, s10, rfl, hb⟩ := hI
              ac_rfl
              refine ⟨w, rfl, ok, ?_⟩
              ac_rfl
  · obtain ⟨s1, s2, s3, s4, s5, s6, s7, s8, s9, s10, rfl⟩ := hI
    ac_rfl
    refine ⟨⟨3, [(0, 1), (1, 2)]⟩, [0, 1], [1], rfl, path3_ok, ⟨by simp [Asc], by decide⟩, ⟨by simp [Asc], by decide⟩, ?_⟩
    refine ⟨.bl true, path3_later, ?_⟩
    ac_rfl
    refine ⟨⟨2, [(0, 1)]⟩, [], [0], rfl, two_ok, ⟨by simp [Asc], by decide⟩, ⟨by simp [Asc], by decide⟩, ?_⟩
    exact ⟨.bl true, two_later, hk⟩
end K01

set_option Elab.async false
set_option linter.all false
set_option maxRecDepth 100000
set_option maxHeartbeats 4000000
namespace K01
open PySem PySem.Spec PyProof.Rows L2 FX MA
theorem kit_refF {K : PySem.W.Frag} {C D : Addr} (hd : PySem.W.hasDictIn K D = true) (ht : PySem.W.typeIn K (.ref D) = some (.type "type")) (hs : PySem.W.subIn K (.ref C) (.ref D) = some false) (hc : PySem.W.subIn K (.ref C) (.ref C) = some true) : PySem.W.kitOne K (.ref C) (.ref D) = some false := by
  unfold PySem.W.kitOne
  by_cases c : ((Value.ref C == Value.ref D) = true)
  · have e : (Value.ref C) = .ref D := by simpa using c
    rw [← e, hc] at hs
    cases hs
  · rw [if_neg c]
    obtain ⟨cd, hc, _⟩ := PySem.W.any_some hd
    have e2 : ((PySem.W.clsIn K D).isSome && PySem.W.typeIn K (.ref D) == some (.type "type")) = true := by rw [hc, ht] <;> rfl
    show (if ((PySem.W.clsIn K D).isSome && PySem.W.typeIn K (.ref D) == some (.type "type")) = true then PySem.W.subIn K (.ref C) (.ref D) else none) = _
    rw [if_pos e2]
    exact hs
theorem kf_all {Q : Str → Prop} (h1 : Q "NoWarren") (h2 : Q "NoLookers") (h3 : Q "NoLot") (h4 : Q "NoPlan") : ∀ x ∈ kindNames, Q x := fun x hx => by
  simp only [kindNames, List.mem_cons, List.not_mem_nil, or_false] at hx
  rcases hx with rfl | rfl | rfl | rfl
  · exact h1
  · exact h2
  · exact h3
  · exact h4
theorem ok_law {P : Program} {w : World} {K : PySem.W.Frag} {mg : Str → Option Value} {base : Heap} (D : Md K mg) : FnOk P w K mg base CX0 9 D.a_law D.d_law ["script"] (spF0 K EW0 false fLaw) := by
  have G__law_bag := fn__law_bag (P := P) (w := w) (base := base) D  p_law_bag
  have G__law_take := fn__law_take (P := P) (w := w) (base := base) D  p_law_take
  have G__law_of := fn__law_of (P := P) (w := w) (base := base) D G__law_take p_law_of
  have G__law_warren := fn__law_warren (P := P) (w := w) (base := base) D G__law_take G__law_of p_law_warren
  have G__law_bent : FnOk P w K mg base CX0 2 D.a__law_bent D.d__law_bent ["bag", "thing"] (spF1 K EW0 (fBent 0)) := fn_none1
  have G__law_bent : FnOk P w K mg base CX0 3 D.a__law_bent D.d__law_bent ["bag", "thing"] (spF1 K EW0 (fBent 1)) := fn__law_bent (P := P) (w := w) (base := base) D (j := 2) (by decide) G__law_take G__law_of G__law_bent (p_law_bent 0)
  have G__law_bent : FnOk P w K mg base CX0 4 D.a__law_bent D.d__law_bent ["bag", "thing"] (spF1 K EW0 (fBent 2)) := fn__law_bent (P := P) (w := w) (base := base) D (j := 3) (by decide) G__law_take G__law_of G__law_bent (p_law_bent 1)
  have G__law_bent : FnOk P w K mg base CX0 5 D.a__law_bent D.d__law_bent ["bag", "thing"] (spF1 K EW0 (fBent 3)) := fn__law_bent (P := P) (w := w) (base := base) D (j := 4) (by decide) G__law_take G__law_of G__law_bent (p_law_bent 2)
  have G__law_bent : FnOk P w K mg base CX0 6 D.a__law_bent D.d__law_bent ["bag", "thing"] (spF1 K EW0 (fBent 4)) := fn__law_bent (P := P) (w := w) (base := base) D (j := 5) (by decide) G__law_take G__law_of G__law_bent (p_law_bent 3)
  have G_is_from := fn_is_from (P := P) (w := w) (base := base) D  p_is_from
  have G_is_passage := fn_is_passage (P := P) (w := w) (base := base) D G_is_from p_is_passage
  have G_is_warren := fn_is_warren (P := P) (w := w) (base := base) D G_is_from G_is_passage p_is_warren
  have GX_look_warren := fn_look_warren (P := P) (w := w) (base := base) D G_is_warren p_look_warren
  have G_good_lot := fn_good_lot (P := P) (w := w) (base := base) D G_is_from p_good_lot
  have GX_is_lot := fn_is_lot (P := P) (w := w) (base := base) D GX_look_warren G_good_lot p_is_lot
  have G_is_lot := fn_calmN (ψ := fIsLot) GX_is_lot calm_is_lot
  have G__law_is_number := fn__law_is_number (P := P) (w := w) (base := base) D  p_law_is_number
  have G__law_rises := fn__law_rises (P := P) (w := w) (base := base) D  p_law_rises
  have G__law_is_lot := fn__law_is_lot (P := P) (w := w) (base := base) D G__law_is_number G__law_rises p_law_is_lot
  have G__law_is_warren := fn__law_is_warren (P := P) (w := w) (base := base) D G__law_is_number G__law_rises p_law_is_warren
  have GX_look_lot := fn_look_lot (P := P) (w := w) (base := base) D G_good_lot p_look_lot
  have G_next_to := fn_next_to (P := P) (w := w) (base := base) D  p_next_to
  have G_later := fn_later (P := P) (w := w) (base := base) D G_next_to p_later
  have GX_behind := fn_behind (P := P) (w := w) (base := base) D GX_look_warren GX_look_lot G_later p_behind
  have G_behind := fn_calmN (ψ := fBehind) GX_behind calm_behind
  have G__law_near := fn__law_near (P := P) (w := w) (base := base) D  p_law_near
  have G__law_later := fn__law_later (P := P) (w := w) (base := base) D G__law_near p_law_later
  have GX_look_lookers := fn_look_lookers (P := P) (w := w) (base := base) D G_is_from p_look_lookers
  have GX_look_all := fn_look_all (P := P) (w := w) (base := base) D GX_look_warren GX_look_lookers GX_look_lot p_look_all
  have GX_fewest_days := fn_fewest_days (P := P) (w := w) (base := base) D GX_look_all p_fewest_days
  have GX_surely := fn_surely (P := P) (w := w) (base := base) D GX_look_all p_surely
  have G_is_plan := fn_is_plan (P := P) (w := w) (base := base) D G_good_lot p_is_plan
  have GX_look_plan := fn_look_plan (P := P) (w := w) (base := base) D GX_look_warren GX_look_lot G_is_plan p_look_plan
  have GX_walk := fn_walk (P := P) (w := w) (base := base) D GX_look_plan p_walk
  have GX_shows := fn_shows (P := P) (w := w) (base := base) D GX_look_warren GX_look_lookers GX_look_lot p_shows
  have GX_to_shut := fn_to_shut (P := P) (w := w) (base := base) D GX_look_warren GX_look_lookers p_to_shut
  have GX_three_arms := fn_three_arms (P := P) (w := w) (base := base) D GX_look_warren p_three_arms
  have G__law_kind := fn__law_kind (P := P) (w := w) (base := base) D GX_behind GX_fewest_days GX_surely GX_walk GX_shows GX_to_shut GX_three_arms p_law_kind
  have G__law_doors_right := fn__law_doors_right (P := P) (w := w) (base := base) D G__law_kind p_law_doors_right
  exact fn_law (P := P) (w := w) (base := base) D G__law_bag G__law_warren G__law_take G__law_bent G__law_of G_is_lot G_is_warren G__law_is_lot G__law_is_warren G_behind G__law_later G__law_doors_right p_law
theorem all_mk {l : PySem.W.OpenLaw} {w : World} {K : PySem.W.Frag} {h : Heap} {mg : Str → Option Value} {fa f_is_from f_is_passage f_is_warren f_good_lot f_look_warren f_look_lookers f_look_lot f_is_lot f_next_to f_later f_behind f_shows f_to_shut f_is_plan f_look_all f_surely f_fewest_days f_three_arms f_look_plan f_walk f__law_bag f__law_take f__law_of f__law_warren f__law_near f__law_later f__law_is_number f__law_rises f__law_is_warren f__law_is_lot f__law_bent f__law_kind f__law_doors_right f_law : Addr} (X : K.In h) (G : h.Ns mainGlobals mg) (hfa : mg "law" = some (.ref fa))
    {od_is_from an_is_from od_is_passage an_is_passage od_is_warren an_is_warren od_good_lot an_good_lot od_look_warren an_look_warren od_look_lookers an_look_lookers od_look_lot an_look_lot od_is_lot an_is_lot od_next_to an_next_to od_later an_later od_behind an_behind od_shows an_shows od_to_shut an_to_shut od_is_plan an_is_plan od_look_all an_look_all od_surely an_surely od_fewest_days an_fewest_days od_three_arms an_three_arms od_look_plan an_look_plan od_walk an_walk od__law_bag an__law_bag od__law_take an__law_take od__law_of an__law_of od__law_warren an__law_warren od__law_near an__law_near od__law_later an__law_later od__law_is_number an__law_is_number od__law_rises an__law_rises od__law_is_warren an__law_is_warren od__law_is_lot an__law_is_lot od__law_bent an__law_bent od__law_kind an__law_kind od__law_doors_right an__law_doors_right od_law an_law : Option Addr} {sl_is_from sl_is_passage sl_is_warren sl_good_lot sl_look_warren sl_look_lookers sl_look_lot sl_is_lot sl_next_to sl_later sl_behind sl_shows sl_to_shut sl_is_plan sl_look_all sl_surely sl_fewest_days sl_three_arms sl_look_plan sl_walk sl__law_bag sl__law_take sl__law_of sl__law_warren sl__law_near sl__law_later sl__law_is_number sl__law_rises sl__law_is_warren sl__law_is_lot sl__law_bent sl__law_kind sl__law_doors_right sl_law : Array (Option Value)} {oc_is_from kV_is_from dc_is_from pm_is_from cd_is_from ct_is_from oc_is_passage kV_is_passage dc_is_passage pm_is_passage cd_is_passage ct_is_passage oc_is_warren kV_is_warren dc_is_warren pm_is_warren cd_is_warren ct_is_warren oc_good_lot kV_good_lot dc_good_lot pm_good_lot cd_good_lot ct_good_lot oc_look_warren kV_look_warren dc_look_warren pm_look_warren cd_look_warren ct_look_warren oc_look_lookers kV_look_lookers dc_look_lookers pm_look_lookers cd_look_lookers ct_look_lookers oc_look_lot kV_look_lot dc_look_lot pm_look_lot cd_look_lot ct_look_lot oc_is_lot kV_is_lot dc_is_lot pm_is_lot cd_is_lot ct_is_lot oc_next_to kV_next_to dc_next_to pm_next_to cd_next_to ct_next_to oc_later kV_later dc_later pm_later cd_later ct_later oc_behind kV_behind dc_behind pm_behind cd_behind ct_behind oc_shows kV_shows dc_shows pm_shows cd_shows ct_shows oc_to_shut kV_to_shut dc_to_shut pm_to_shut cd_to_shut ct_to_shut oc_is_plan kV_is_plan dc_is_plan pm_is_plan cd_is_plan ct_is_plan oc_look_all kV_look_all dc_look_all pm_look_all cd_look_all ct_look_all oc_surely kV_surely dc_surely pm_surely cd_surely ct_surely oc_fewest_days kV_fewest_days dc_fewest_days pm_fewest_days cd_fewest_days ct_fewest_days oc_three_arms kV_three_arms dc_three_arms pm_three_arms cd_three_arms ct_three_arms oc_look_plan kV_look_plan dc_look_plan pm_look_plan cd_look_plan ct_look_plan oc_walk kV_walk dc_walk pm_walk cd_walk ct_walk oc__law_bag kV__law_bag dc__law_bag pm__law_bag cd__law_bag ct__law_bag oc__law_take kV__law_take dc__law_take pm__law_take cd__law_take ct__law_take oc__law_of kV__law_of dc__law_of pm__law_of cd__law_of ct__law_of oc__law_warren kV__law_warren dc__law_warren pm__law_warren cd__law_warren ct__law_warren oc__law_near kV__law_near dc__law_near pm__law_near cd__law_near ct__law_near oc__law_later kV__law_later dc__law_later pm__law_later cd__law_later ct__law_later oc__law_is_number kV__law_is_number dc__law_is_number pm__law_is_number cd__law_is_number ct__law_is_number oc__law_rises kV__law_rises dc__law_rises pm__law_rises cd__law_rises ct__law_rises oc__law_is_warren kV__law_is_warren dc__law_is_warren pm__law_is_warren cd__law_is_warren ct__law_is_warren oc__law_is_lot kV__law_is_lot dc__law_is_lot pm__law_is_lot cd__law_is_lot ct__law_is_lot oc__law_bent kV__law_bent dc__law_bent pm__law_bent cd__law_bent ct__law_bent oc__law_kind kV__law_kind dc__law_kind pm__law_kind cd__law_kind ct__law_kind oc__law_doors_right kV__law_doors_right dc__law_doors_right pm__law_doors_right cd__law_doors_right ct__law_doors_right oc_law kV_law dc_law pm_law cd_law ct_law : Value} {t_HOLES t_LOOKERS t_DAYS : Tok}
    (a_is_from : PySem.W.nsIn K mainGlobals "is_from" = some (some (.ref f_is_from))) (l_is_from : K.lookup f_is_from = some ⟨oc_is_from, od_is_from, .func (PySem.W.fnOf "is_from" "is_from" (defArgs s_is_from) (defBody s_is_from) (defScope s_is_from) .none kV_is_from dc_is_from pm_is_from an_is_from cd_is_from ct_is_from), sl_is_from⟩) (c_is_from : PySem.W.codeIn K cd_is_from "is_from" = true) (k_is_from : PySem.W.keepIn K (.ref f_is_from) = true)
    (a_is_passage : PySem.W.nsIn K mainGlobals "is_passage" = some (some (.ref f_is_passage))) (l_is_passage : K.lookup f_is_passage = some ⟨oc_is_passage, od_is_passage, .func (PySem.W.fnOf "is_passage" "is_passage" (defArgs s_is_passage) (defBody s_is_passage) (defScope s_is_passage) .none kV_is_passage dc_is_passage pm_is_passage an_is_passage cd_is_passage ct_is_passage), sl_is_passage⟩) (c_is_passage : PySem.W.codeIn K cd_is_passage "is_passage" = true) (k_is_passage : PySem.W.keepIn K (.ref f_is_passage) = true)
    (a_is_warren : PySem.W.nsIn K mainGlobals "is_warren" = some (some (.ref f_is_warren))) (l_is_warren : K.lookup f_is_warren = some ⟨oc_is_warren, od_is_warren, .func (PySem.W.fnOf "is_warren" "is_warren" (defArgs s_is_warren) (defBody s_is_warren) (defScope s_is_warren) .none kV_is_warren dc_is_warren pm_is_warren an_is_warren cd_is_warren ct_is_warren), sl_is_warren⟩) (c_is_warren : PySem.W.codeIn K cd_is_warren "is_warren" = true) (k_is_warren : PySem.W.keepIn K (.ref f_is_warren) = true)
    (a_good_lot : PySem.W.nsIn K mainGlobals "good_lot" = some (some (.ref f_good_lot))) (l_good_lot : K.lookup f_good_lot = some ⟨oc_good_lot, od_good_lot, .func (PySem.W.fnOf "good_lot" "good_lot" (defArgs s_good_lot) (defBody s_good_lot) (defScope s_good_lot) .none kV_good_lot dc_good_lot pm_good_lot an_good_lot cd_good_lot ct_good_lot), sl_good_lot⟩) (c_good_lot : PySem.W.codeIn K cd_good_lot "good_lot" = true) (k_good_lot : PySem.W.keepIn K (.ref f_good_lot) = true)
    (a_look_warren : PySem.W.nsIn K mainGlobals "look_warren" = some (some (.ref f_look_warren))) (l_look_warren : K.lookup f_look_warren = some ⟨oc_look_warren, od_look_warren, .func (PySem.W.fnOf "look_warren" "look_warren" (defArgs s_look_warren) (defBody s_look_warren) (defScope s_look_warren) .none kV_look_warren dc_look_warren pm_look_warren an_look_warren cd_look_warren ct_look_warren), sl_look_warren⟩) (c_look_warren : PySem.W.codeIn K cd_look_warren "look_warren" = true) (k_look_warren : PySem.W.keepIn K (.ref f_look_warren) = true)
    (a_look_lookers : PySem.W.nsIn K mainGlobals "look_lookers" = some (some (.ref f_look_lookers))) (l_look_lookers : K.lookup f_look_lookers = some ⟨oc_look_lookers, od_look_lookers, .func (PySem.W.fnOf "look_lookers" "look_lookers" (defArgs s_look_lookers) (defBody s_look_lookers) (defScope s_look_lookers) .none kV_look_lookers dc_look_lookers pm_look_lookers an_look_lookers cd_look_lookers ct_look_lookers), sl_look_lookers⟩) (c_look_lookers : PySem.W.codeIn K cd_look_lookers "look_lookers" = true) (k_look_lookers : PySem.W.keepIn K (.ref f_look_lookers) = true)
    (a_look_lot : PySem.W.nsIn K mainGlobals "look_lot" = some (some (.ref f_look_lot))) (l_look_lot : K.lookup f_look_lot = some ⟨oc_look_lot, od_look_lot, .func (PySem.W.fnOf "look_lot" "look_lot" (defArgs s_look_lot) (defBody s_look_lot) (defScope s_look_lot) .none kV_look_lot dc_look_lot pm_look_lot an_look_lot cd_look_lot ct_look_lot), sl_look_lot⟩) (c_look_lot : PySem.W.codeIn K cd_look_lot "look_lot" = true) (k_look_lot : PySem.W.keepIn K (.ref f_look_lot) = true)
    (a_is_lot : PySem.W.nsIn K mainGlobals "is_lot" = some (some (.ref f_is_lot))) (l_is_lot : K.lookup f_is_lot = some ⟨oc_is_lot, od_is_lot, .func (PySem.W.fnOf "is_lot" "is_lot" (defArgs s_is_lot) (defBody s_is_lot) (defScope s_is_lot) .none kV_is_lot dc_is_lot pm_is_lot an_is_lot cd_is_lot ct_is_lot), sl_is_lot⟩) (c_is_lot : PySem.W.codeIn K cd_is_lot "is_lot" = true) (k_is_lot : PySem.W.keepIn K (.ref f_is_lot) = true)
    (a_next_to : PySem.W.nsIn K mainGlobals "next_to" = some (some (.ref f_next_to))) (l_next_to : K.lookup f_next_to = some ⟨oc_next_to, od_next_to, .func (PySem.W.fnOf "next_to" "next_to" (defArgs s_next_to) (defBody s_next_to) (defScope s_next_to) .none kV_next_to dc_next_to pm_next_to an_next_to cd_next_to ct_next_to), sl_next_to⟩) (c_next_to : PySem.W.codeIn K cd_next_to "next_to" = true) (k_next_to : PySem.W.keepIn K (.ref f_next_to) = true)
    (a_later : PySem.W.nsIn K mainGlobals "later" = some (some (.ref f_later))) (l_later : K.lookup f_later = some ⟨oc_later, od_later, .func (PySem.W.fnOf "later" "later" (defArgs s_later) (defBody s_later) (defScope s_later) .none kV_later dc_later pm_later an_later cd_later ct_later), sl_later⟩) (c_later : PySem.W.codeIn K cd_later "later" = true) (k_later : PySem.W.keepIn K (.ref f_later) = true)
    (a_behind : PySem.W.nsIn K mainGlobals "behind" = some (some (.ref f_behind))) (l_behind : K.lookup f_behind = some ⟨oc_behind, od_behind, .func (PySem.W.fnOf "behind" "behind" (defArgs s_behind) (defBody s_behind) (defScope s_behind) .none kV_behind dc_behind pm_behind an_behind cd_behind ct_behind), sl_behind⟩) (c_behind : PySem.W.codeIn K cd_behind "behind" = true) (k_behind : PySem.W.keepIn K (.ref f_behind) = true)
    (a_shows : PySem.W.nsIn K mainGlobals "shows" = some (some (.ref f_shows))) (l_shows : K.lookup f_shows = some ⟨oc_shows, od_shows, .func (PySem.W.fnOf "shows" "shows" (defArgs s_shows) (defBody s_shows) (defScope s_shows) .none kV_shows dc_shows pm_shows an_shows cd_shows ct_shows), sl_shows⟩) (c_shows : PySem.W.codeIn K cd_shows "shows" = true) (k_shows : PySem.W.keepIn K (.ref f_shows) = true)
    (a_to_shut : PySem.W.nsIn K mainGlobals "to_shut" = some (some (.ref f_to_shut))) (l_to_shut : K.lookup f_to_shut = some ⟨oc_to_shut, od_to_shut, .func (PySem.W.fnOf "to_shut" "to_shut" (defArgs s_to_shut) (defBody s_to_shut) (defScope s_to_shut) .none kV_to_shut dc_to_shut pm_to_shut an_to_shut cd_to_shut ct_to_shut), sl_to_shut⟩) (c_to_shut : PySem.W.codeIn K cd_to_shut "to_shut" = true) (k_to_shut : PySem.W.keepIn K (.ref f_to_shut) = true)
    (a_is_plan : PySem.W.nsIn K mainGlobals "is_plan" = some (some (.ref f_is_plan))) (l_is_plan : K.lookup f_is_plan = some ⟨oc_is_plan, od_is_plan, .func (PySem.W.fnOf "is_plan" "is_plan" (defArgs s_is_plan) (defBody s_is_plan) (defScope s_is_plan) .none kV_is_plan dc_is_plan pm_is_plan an_is_plan cd_is_plan ct_is_plan), sl_is_plan⟩) (c_is_plan : PySem.W.codeIn K cd_is_plan "is_plan" = true) (k_is_plan : PySem.W.keepIn K (.ref f_is_plan) = true)
    (a_look_all : PySem.W.nsIn K mainGlobals "look_all" = some (some (.ref f_look_all))) (l_look_all : K.lookup f_look_all = some ⟨oc_look_all, od_look_all, .func (PySem.W.fnOf "look_all" "look_all" (defArgs s_look_all) (defBody s_look_all) (defScope s_look_all) .none kV_look_all dc_look_all pm_look_all an_look_all cd_look_all ct_look_all), sl_look_all⟩) (c_look_all : PySem.W.codeIn K cd_look_all "look_all" = true) (k_look_all : PySem.W.keepIn K (.ref f_look_all) = true)
    (a_surely : PySem.W.nsIn K mainGlobals "surely" = some (some (.ref f_surely))) (l_surely : K.lookup f_surely = some ⟨oc_surely, od_surely, .func (PySem.W.fnOf "surely" "surely" (defArgs s_surely) (defBody s_surely) (defScope s_surely) .none kV_surely dc_surely pm_surely an_surely cd_surely ct_surely), sl_surely⟩) (c_surely : PySem.W.codeIn K cd_surely "surely" = true) (k_surely : PySem.W.keepIn K (.ref f_surely) = true)
    (a_fewest_days : PySem.W.nsIn K mainGlobals "fewest_days" = some (some (.ref f_fewest_days))) (l_fewest_days : K.lookup f_fewest_days = some ⟨oc_fewest_days, od_fewest_days, .func (PySem.W.fnOf "fewest_days" "fewest_days" (defArgs s_fewest_days) (defBody s_fewest_days) (defScope s_fewest_days) .none kV_fewest_days dc_fewest_days pm_fewest_days an_fewest_days cd_fewest_days ct_fewest_days), sl_fewest_days⟩) (c_fewest_days : PySem.W.codeIn K cd_fewest_days "fewest_days" = true) (k_fewest_days : PySem.W.keepIn K (.ref f_fewest_days) = true)
    (a_three_arms : PySem.W.nsIn K mainGlobals "three_arms" = some (some (.ref f_three_arms))) (l_three_arms : K.lookup f_three_arms = some ⟨oc_three_arms, od_three_arms, .func (PySem.W.fnOf "three_arms" "three_arms" (defArgs s_three_arms) (defBody s_three_arms) (defScope s_three_arms) .none kV_three_arms dc_three_arms pm_three_arms an_three_arms cd_three_arms ct_three_arms), sl_three_arms⟩) (c_three_arms : PySem.W.codeIn K cd_three_arms "three_arms" = true) (k_three_arms : PySem.W.keepIn K (.ref f_three_arms) = true)
    (a_look_plan : PySem.W.nsIn K mainGlobals "look_plan" = some (some (.ref f_look_plan))) (l_look_plan : K.lookup f_look_plan = some ⟨oc_look_plan, od_look_plan, .func (PySem.W.fnOf "look_plan" "look_plan" (defArgs s_look_plan) (defBody s_look_plan) (defScope s_look_plan) .none kV_look_plan dc_look_plan pm_look_plan an_look_plan cd_look_plan ct_look_plan), sl_look_plan⟩) (c_look_plan : PySem.W.codeIn K cd_look_plan "look_plan" = true) (k_look_plan : PySem.W.keepIn K (.ref f_look_plan) = true)
    (a_walk : PySem.W.nsIn K mainGlobals "walk" = some (some (.ref f_walk))) (l_walk : K.lookup f_walk = some ⟨oc_walk, od_walk, .func (PySem.W.fnOf "walk" "walk" (defArgs s_walk) (defBody s_walk) (defScope s_walk) .none kV_walk dc_walk pm_walk an_walk cd_walk ct_walk), sl_walk⟩) (c_walk : PySem.W.codeIn K cd_walk "walk" = true) (k_walk : PySem.W.keepIn K (.ref f_walk) = true)
    (a__law_bag : PySem.W.nsIn K mainGlobals "_law_bag" = some (some (.ref f__law_bag))) (l__law_bag : K.lookup f__law_bag = some ⟨oc__law_bag, od__law_bag, .func (PySem.W.fnOf "_law_bag" "_law_bag" (defArgs s__law_bag) (defBody s__law_bag) (defScope s__law_bag) .none kV__law_bag dc__law_bag pm__law_bag an__law_bag cd__law_bag ct__law_bag), sl__law_bag⟩) (c__law_bag : PySem.W.codeIn K cd__law_bag "_law_bag" = true) (k__law_bag : PySem.W.keepIn K (.ref f__law_bag) = true)
    (a__law_take : PySem.W.nsIn K mainGlobals "_law_take" = some (some (.ref f__law_take))) (l__law_take : K.lookup f__law_take = some ⟨oc__law_take, od__law_take, .func (PySem.W.fnOf "_law_take" "_law_take" (defArgs s__law_take) (defBody s__law_take) (defScope s__law_take) .none kV__law_take dc__law_take pm__law_take an__law_take cd__law_take ct__law_take), sl__law_take⟩) (c__law_take : PySem.W.codeIn K cd__law_take "_law_take" = true) (k__law_take : PySem.W.keepIn K (.ref f__law_take) = true)
    (a__law_of : PySem.W.nsIn K mainGlobals "_law_of" = some (some (.ref f__law_of))) (l__law_of : K.lookup f__law_of = some ⟨oc__law_of, od__law_of, .func (PySem.W.fnOf "_law_of" "_law_of" (defArgs s__law_of) (defBody s__law_of) (defScope s__law_of) .none kV__law_of dc__law_of pm__law_of an__law_of cd__law_of ct__law_of), sl__law_of⟩) (c__law_of : PySem.W.codeIn K cd__law_of "_law_of" = true) (k__law_of : PySem.W.keepIn K (.ref f__law_of) = true)
    (a__law_warren : PySem.W.nsIn K mainGlobals "_law_warren" = some (some (.ref f__law_warren))) (l__law_warren : K.lookup f__law_warren = some ⟨oc__law_warren, od__law_warren, .func (PySem.W.fnOf "_law_warren" "_law_warren" (defArgs s__law_warren) (defBody s__law_warren) (defScope s__law_warren) .none kV__law_warren dc__law_warren pm__law_warren an__law_warren cd__law_warren ct__law_warren), sl__law_warren⟩) (c__law_warren : PySem.W.codeIn K cd__law_warren "_law_warren" = true) (k__law_warren : PySem.W.keepIn K (.ref f__law_warren) = true)
    (a__law_near : PySem.W.nsIn K mainGlobals "_law_near" = some (some (.ref f__law_near))) (l__law_near : K.lookup f__law_near = some ⟨oc__law_near, od__law_near, .func (PySem.W.fnOf "_law_near" "_law_near" (defArgs s__law_near) (defBody s__law_near) (defScope s__law_near) .none kV__law_near dc__law_near pm__law_near an__law_near cd__law_near ct__law_near), sl__law_near⟩) (c__law_near : PySem.W.codeIn K cd__law_near "_law_near" = true) (k__law_near : PySem.W.keepIn K (.ref f__law_near) = true)
    (a__law_later : PySem.W.nsIn K mainGlobals "_law_later" = some (some (.ref f__law_later))) (l__law_later : K.lookup f__law_later = some ⟨oc__law_later, od__law_later, .func (PySem.W.fnOf "_law_later" "_law_later" (defArgs s__law_later) (defBody s__law_later) (defScope s__law_later) .none kV__law_later dc__law_later pm__law_later an__law_later cd__law_later ct__law_later), sl__law_later⟩) (c__law_later : PySem.W.codeIn K cd__law_later "_law_later" = true) (k__law_later : PySem.W.keepIn K (.ref f__law_later) = true)
    (a__law_is_number : PySem.W.nsIn K mainGlobals "_law_is_number" = some (some (.ref f__law_is_number))) (l__law_is_number : K.lookup f__law_is_number = some ⟨oc__law_is_number, od__law_is_number, .func (PySem.W.fnOf "_law_is_number" "_law_is_number" (defArgs s__law_is_number) (defBody s__law_is_number) (defScope s__law_is_number) .none kV__law_is_number dc__law_is_number pm__law_is_number an__law_is_number cd__law_is_number ct__law_is_number), sl__law_is_number⟩) (c__law_is_number : PySem.W.codeIn K cd__law_is_number "_law_is_number" = true) (k__law_is_number : PySem.W.keepIn K (.ref f__law_is_number) = true)
    (a__law_rises : PySem.W.nsIn K mainGlobals "_law_rises" = some (some (.ref f__law_rises))) (l__law_rises : K.lookup f__law_rises = some ⟨oc__law_rises, od__law_rises, .func (PySem.W.fnOf "_law_rises" "_law_rises" (defArgs s__law_rises) (defBody s__law_rises) (defScope s__law_rises) .none kV__law_rises dc__law_rises pm__law_rises an__law_rises cd__law_rises ct__law_rises), sl__law_rises⟩) (c__law_rises : PySem.W.codeIn K cd__law_rises "_law_rises" = true) (k__law_rises : PySem.W.keepIn K (.ref f__law_rises) = true)
    (a__law_is_warren : PySem.W.nsIn K mainGlobals "_law_is_warren" = some (some (.ref f__law_is_warren))) (l__law_is_warren : K.lookup f__law_is_warren = some ⟨oc__law_is_warren, od__law_is_warren, .func (PySem.W.fnOf "_law_is_warren" "_law_is_warren" (defArgs s__law_is_warren) (defBody s__law_is_warren) (defScope s__law_is_warren) .none kV__law_is_warren dc__law_is_warren pm__law_is_warren an__law_is_warren cd__law_is_warren ct__law_is_warren), sl__law_is_warren⟩) (c__law_is_warren : PySem.W.codeIn K cd__law_is_warren "_law_is_warren" = true) (k__law_is_warren : PySem.W.keepIn K (.ref f__law_is_warren) = true)
    (a__law_is_lot : PySem.W.nsIn K mainGlobals "_law_is_lot" = some (some (.ref f__law_is_lot))) (l__law_is_lot : K.lookup f__law_is_lot = some ⟨oc__law_is_lot, od__law_is_lot, .func (PySem.W.fnOf "_law_is_lot" "_law_is_lot" (defArgs s__law_is_lot) (defBody s__law_is_lot) (defScope s__law_is_lot) .none kV__law_is_lot dc__law_is_lot pm__law_is_lot an__law_is_lot cd__law_is_lot ct__law_is_lot), sl__law_is_lot⟩) (c__law_is_lot : PySem.W.codeIn K cd__law_is_lot "_law_is_lot" = true) (k__law_is_lot : PySem.W.keepIn K (.ref f__law_is_lot) = true)
    (a__law_bent : PySem.W.nsIn K mainGlobals "_law_bent" = some (some (.ref f__law_bent))) (l__law_bent : K.lookup f__law_bent = some ⟨oc__law_bent, od__law_bent, .func (PySem.W.fnOf "_law_bent" "_law_bent" (defArgs s__law_bent) (defBody s__law_bent) (defScope s__law_bent) .none kV__law_bent dc__law_bent pm__law_bent an__law_bent cd__law_bent ct__law_bent), sl__law_bent⟩) (c__law_bent : PySem.W.codeIn K cd__law_bent "_law_bent" = true) (k__law_bent : PySem.W.keepIn K (.ref f__law_bent) = true)
    (a__law_kind : PySem.W.nsIn K mainGlobals "_law_kind" = some (some (.ref f__law_kind))) (l__law_kind : K.lookup f__law_kind = some ⟨oc__law_kind, od__law_kind, .func (PySem.W.fnOf "_law_kind" "_law_kind" (defArgs s__law_kind) (defBody s__law_kind) (defScope s__law_kind) .none kV__law_kind dc__law_kind pm__law_kind an__law_kind cd__law_kind ct__law_kind), sl__law_kind⟩) (c__law_kind : PySem.W.codeIn K cd__law_kind "_law_kind" = true) (k__law_kind : PySem.W.keepIn K (.ref f__law_kind) = true)
    (a__law_doors_right : PySem.W.nsIn K mainGlobals "_law_doors_right" = some (some (.ref f__law_doors_right))) (l__law_doors_right : K.lookup f__law_doors_right = some ⟨oc__law_doors_right, od__law_doors_right, .func (PySem.W.fnOf "_law_doors_right" "_law_doors_right" (defArgs s__law_doors_right) (defBody s__law_doors_right) (defScope s__law_doors_right) .none kV__law_doors_right dc__law_doors_right pm__law_doors_right an__law_doors_right cd__law_doors_right ct__law_doors_right), sl__law_doors_right⟩) (c__law_doors_right : PySem.W.codeIn K cd__law_doors_right "_law_doors_right" = true) (k__law_doors_right : PySem.W.keepIn K (.ref f__law_doors_right) = true)
    (a_law : PySem.W.nsIn K mainGlobals "law" = some (some (.ref f_law))) (l_law : K.lookup f_law = some ⟨oc_law, od_law, .func (PySem.W.fnOf "law" "law" (defArgs s_law) (defBody s_law) (defScope s_law) .none kV_law dc_law pm_law an_law cd_law ct_law), sl_law⟩) (c_law : PySem.W.codeIn K cd_law "law" = true) (k_law : PySem.W.keepIn K (.ref f_law) = true)
    (n_HOLES : PySem.W.nsIn K mainGlobals "HOLES" = some (some (.int 10 t_HOLES)))
    (n_LOOKERS : PySem.W.nsIn K mainGlobals "LOOKERS" = some (some (.int 4 t_LOOKERS)))
    (n_DAYS : PySem.W.nsIn K mainGlobals "DAYS" = some (some (.int 1023 t_DAYS)))
    (z_all : PySem.W.nsIn K mainGlobals "all" = some none)
    (z_any : PySem.W.nsIn K mainGlobals "any" = some none)
    (z_bool : PySem.W.nsIn K mainGlobals "bool" = some none)
    (z_int : PySem.W.nsIn K mainGlobals "int" = some none)
    (z_isinstance : PySem.W.nsIn K mainGlobals "isinstance" = some none)
    (z_len : PySem.W.nsIn K mainGlobals "len" = some none)
    (z_list : PySem.W.nsIn K mainGlobals "list" = some none)
    (z_max : PySem.W.nsIn K mainGlobals "max" = some none)
    (z_min : PySem.W.nsIn K mainGlobals "min" = some none)
    (z_range : PySem.W.nsIn K mainGlobals "range" = some none)
    (z_sorted : PySem.W.nsIn K mainGlobals "sorted" = some none)
    (z_tuple : PySem.W.nsIn K mainGlobals "tuple" = some none)
    (z_zip : PySem.W.nsIn K mainGlobals "zip" = some none)
    {C_NoLookers C_NoLot C_NoPlan C_NoTree C_NoWarren C_FoxError : Addr}
    (a_NoLookers : PySem.W.nsIn K mainGlobals "NoLookers" = some (some (.ref C_NoLookers)))
    (a_NoLot : PySem.W.nsIn K mainGlobals "NoLot" = some (some (.ref C_NoLot)))
    (a_NoPlan : PySem.W.nsIn K mainGlobals "NoPlan" = some (some (.ref C_NoPlan)))
    (a_NoTree : PySem.W.nsIn K mainGlobals "NoTree" = some (some (.ref C_NoTree)))
    (a_NoWarren : PySem.W.nsIn K mainGlobals "NoWarren" = some (some (.ref C_NoWarren)))
    (q_NoLookers : PySem.W.excIn K C_NoLookers [.type "ValueError", .type "Exception", .type "BaseException", .type "object"] "ValueError.__new__" = true)
    (k_NoLookers : PySem.W.keepIn K (.ref C_NoLookers) = true)
    (b_NoLookers : PySem.W.subIn K (.ref C_NoLookers) (.type "BaseException") = some true)
    (t_NoLookers : PySem.W.typeIn K (.ref C_NoLookers) = some (.type "type"))
    (q_NoLot : PySem.W.excIn K C_NoLot [.type "ValueError", .type "Exception", .type "BaseException", .type "object"] "ValueError.__new__" = true)
    (k_NoLot : PySem.W.keepIn K (.ref C_NoLot) = true)
    (b_NoLot : PySem.W.subIn K (.ref C_NoLot) (.type "BaseException") = some true)
    (t_NoLot : PySem.W.typeIn K (.ref C_NoLot) = some (.type "type"))
    (q_NoPlan : PySem.W.excIn K C_NoPlan [.type "ValueError", .type "Exception", .type "BaseException", .type "object"] "ValueError.__new__" = true)
    (k_NoPlan : PySem.W.keepIn K (.ref C_NoPlan) = true)
    (b_NoPlan : PySem.W.subIn K (.ref C_NoPlan) (.type "BaseException") = some true)
    (t_NoPlan : PySem.W.typeIn K (.ref C_NoPlan) = some (.type "type"))
    (q_NoWarren : PySem.W.excIn K C_NoWarren [.type "ValueError", .type "Exception", .type "BaseException", .type "object"] "ValueError.__new__" = true)
    (k_NoWarren : PySem.W.keepIn K (.ref C_NoWarren) = true)
    (b_NoWarren : PySem.W.subIn K (.ref C_NoWarren) (.type "BaseException") = some true)
    (t_NoWarren : PySem.W.typeIn K (.ref C_NoWarren) = some (.type "type"))
    (a_FoxError : PySem.W.nsIn K mainGlobals "FoxError" = some (some (.ref C_FoxError)))
    (b_FoxError : PySem.W.subIn K (.ref C_FoxError) (.type "BaseException") = some true)
    (t_FoxError : PySem.W.typeIn K (.ref C_FoxError) = some (.type "type"))
    (d_FoxError : PySem.W.hasDictIn K C_FoxError = true)
    (y_NoWarren : PySem.W.subIn K (.ref C_NoWarren) (.ref C_FoxError) = some true)
    (s_NoWarren : PySem.W.subIn K (.ref C_NoWarren) (.ref C_NoWarren) = some true)
    (u_NoWarren : PySem.W.findIn K (.ref C_NoWarren) "__getattribute__" = some (some (.builtin "BaseException.__getattribute__")))
    (v_NoWarren : PySem.W.findIn K (.ref C_NoWarren) "__getattr__" = some none)
    (d_NoWarren : PySem.W.hasDictIn K C_NoWarren = true)
    (w_NoWarren : PySem.W.findIn K (.ref C_NoWarren) "__class__" = some (some (.builtin "object.__class__")))
    (m_NoWarren : PySem.W.mroIn K C_NoWarren (.type "object") = some true)
    (i_NoWarren_NoLookers : PySem.W.subIn K (.ref C_NoWarren) (.ref C_NoLookers) = some false)
    (i_NoWarren_NoLot : PySem.W.subIn K (.ref C_NoWarren) (.ref C_NoLot) = some false)
    (i_NoWarren_NoPlan : PySem.W.subIn K (.ref C_NoWarren) (.ref C_NoPlan) = some false)
    (i_NoWarren_NoTree : PySem.W.subIn K (.ref C_NoWarren) (.ref C_NoTree) = some false)
    (y_NoLookers : PySem.W.subIn K (.ref C_NoLookers) (.ref C_FoxError) = some true)
    (s_NoLookers : PySem.W.subIn K (.ref C_NoLookers) (.ref C_NoLookers) = some true)
    (u_NoLookers : PySem.W.findIn K (.ref C_NoLookers) "__getattribute__" = some (some (.builtin "BaseException.__getattribute__")))
    (v_NoLookers : PySem.W.findIn K (.ref C_NoLookers) "__getattr__" = some none)
    (d_NoLookers : PySem.W.hasDictIn K C_NoLookers = true)
    (w_NoLookers : PySem.W.findIn K (.ref C_NoLookers) "__class__" = some (some (.builtin "object.__class__")))
    (m_NoLookers : PySem.W.mroIn K C_NoLookers (.type "object") = some true)
    (i_NoLookers_NoLot : PySem.W.subIn K (.ref C_NoLookers) (.ref C_NoLot) = some false)
    (i_NoLookers_NoPlan : PySem.W.subIn K (.ref C_NoLookers) (.ref C_NoPlan) = some false)
    (i_NoLookers_NoTree : PySem.W.subIn K (.ref C_NoLookers) (.ref C_NoTree) = some false)
    (i_NoLookers_NoWarren : PySem.W.subIn K (.ref C_NoLookers) (.ref C_NoWarren) = some false)
    (y_NoLot : PySem.W.subIn K (.ref C_NoLot) (.ref C_FoxError) = some true)
    (s_NoLot : PySem.W.subIn K (.ref C_NoLot) (.ref C_NoLot) = some true)
    (u_NoLot : PySem.W.findIn K (.ref C_NoLot) "__getattribute__" = some (some (.builtin "BaseException.__getattribute__")))
    (v_NoLot : PySem.W.findIn K (.ref C_NoLot) "__getattr__" = some none)
    (d_NoLot : PySem.W.hasDictIn K C_NoLot = true)
    (w_NoLot : PySem.W.findIn K (.ref C_NoLot) "__class__" = some (some (.builtin "object.__class__")))
    (m_NoLot : PySem.W.mroIn K C_NoLot (.type "object") = some true)
    (i_NoLot_NoLookers : PySem.W.subIn K (.ref C_NoLot) (.ref C_NoLookers) = some false)
    (i_NoLot_NoPlan : PySem.W.subIn K (.ref C_NoLot) (.ref C_NoPlan) = some false)
    (i_NoLot_NoTree : PySem.W.subIn K (.ref C_NoLot) (.ref C_NoTree) = some false)
    (i_NoLot_NoWarren : PySem.W.subIn K (.ref C_NoLot) (.ref C_NoWarren) = some false)
    (y_NoPlan : PySem.W.subIn K (.ref C_NoPlan) (.ref C_FoxError) = some true)
    (s_NoPlan : PySem.W.subIn K (.ref C_NoPlan) (.ref C_NoPlan) = some true)
    (u_NoPlan : PySem.W.findIn K (.ref C_NoPlan) "__getattribute__" = some (some (.builtin "BaseException.__getattribute__")))
    (v_NoPlan : PySem.W.findIn K (.ref C_NoPlan) "__getattr__" = some none)
    (d_NoPlan : PySem.W.hasDictIn K C_NoPlan = true)
    (w_NoPlan : PySem.W.findIn K (.ref C_NoPlan) "__class__" = some (some (.builtin "object.__class__")))
    (m_NoPlan : PySem.W.mroIn K C_NoPlan (.type "object") = some true)
    (i_NoPlan_NoLookers : PySem.W.subIn K (.ref C_NoPlan) (.ref C_NoLookers) = some false)
    (i_NoPlan_NoLot : PySem.W.subIn K (.ref C_NoPlan) (.ref C_NoLot) = some false)
    (i_NoPlan_NoTree : PySem.W.subIn K (.ref C_NoPlan) (.ref C_NoTree) = some false)
    (i_NoPlan_NoWarren : PySem.W.subIn K (.ref C_NoPlan) (.ref C_NoWarren) = some false)
    (x_get : PySem.W.specialIn K (.builtin "object.__class__") "__get__" = some (some (.builtin "getset_descriptor.__get__")))
    (x_tak : PySem.W.takesIn K (.builtin "object.__class__") = some true)
    (d_NoTree : PySem.W.hasDictIn K C_NoTree = true)
    (t_NoTree : PySem.W.typeIn K (.ref C_NoTree) = some (.type "type"))
    : ∃ fd : FuncData, (∀ (s : Shared) (v : Value), BindsTo s fd ⟨[v], []⟩ [("script", v)]) ∧ ∀ base : Heap, K.In base → base.Ns mainGlobals mg → FnOk l.prog w K mg base CX0 9 fa fd ["script"] (spF0 K EW0 false fLaw) := by
  have e := hfa.symm.trans (PySem.W.mg_of X G a_law)
  cases e
  have F_is_from := fun_mk (st := s_is_from) l_is_from c_is_from k_is_from
  have F_is_passage := fun_mk (st := s_is_passage) l_is_passage c_is_passage k_is_passage
  have F_is_warren := fun_mk (st := s_is_warren) l_is_warren c_is_warren k_is_warren
  have F_good_lot := fun_mk (st := s_good_lot) l_good_lot c_good_lot k_good_lot
  have F_look_warren := fun_mk (st := s_look_warren) l_look_warren c_look_warren k_look_warren
  have F_look_lookers := fun_mk (st := s_look_lookers) l_look_lookers c_look_lookers k_look_lookers
  have F_look_lot := fun_mk (st := s_look_lot) l_look_lot c_look_lot k_look_lot
  have F_is_lot := fun_mk (st := s_is_lot) l_is_lot c_is_lot k_is_lot
  have F_next_to := fun_mk (st := s_next_to) l_next_to c_next_to k_next_to
  have F_later := fun_mk (st := s_later) l_later c_later k_later
  have F_behind := fun_mk (st := s_behind) l_behind c_behind k_behind
  have F_shows := fun_mk (st := s_shows) l_shows c_shows k_shows
  have F_to_shut := fun_mk (st := s_to_shut) l_to_shut c_to_shut k_to_shut
  have F_is_plan := fun_mk (st := s_is_plan) l_is_plan c_is_plan k_is_plan
  have F_look_all := fun_mk (st := s_look_all) l_look_all c_look_all k_look_all
  have F_surely := fun_mk (st := s_surely) l_surely c_surely k_surely
  have F_fewest_days := fun_mk (st := s_fewest_days) l_fewest_days c_fewest_days k_fewest_days
  have F_three_arms := fun_mk (st := s_three_arms) l_three_arms c_three_arms k_three_arms
  have F_look_plan := fun_mk (st := s_look_plan) l_look_plan c_look_plan k_look_plan
  have F_walk := fun_mk (st := s_walk) l_walk c_walk k_walk
  have F__law_bag := fun_mk (st := s__law_bag) l__law_bag c__law_bag k__law_bag
  have F__law_take := fun_mk (st := s__law_take) l__law_take c__law_take k__law_take
  have F__law_of := fun_mk (st := s__law_of) l__law_of c__law_of k__law_of
  have F__law_warren := fun_mk (st := s__law_warren) l__law_warren c__law_warren k__law_warren
  have F__law_near := fun_mk (st := s__law_near) l__law_near c__law_near k__law_near
  have F__law_later := fun_mk (st := s__law_later) l__law_later c__law_later k__law_later
  have F__law_is_number := fun_mk (st := s__law_is_number) l__law_is_number c__law_is_number k__law_is_number
  have F__law_rises := fun_mk (st := s__law_rises) l__law_rises c__law_rises k__law_rises
  have F__law_is_warren := fun_mk (st := s__law_is_warren) l__law_is_warren c__law_is_warren k__law_is_warren
  have F__law_is_lot := fun_mk (st := s__law_is_lot) l__law_is_lot c__law_is_lot k__law_is_lot
  have F__law_bent := fun_mk (st := s__law_bent) l__law_bent c__law_bent k__law_bent
  have F__law_kind := fun_mk (st := s__law_kind) l__law_kind c__law_kind k__law_kind
  have F__law_doors_right := fun_mk (st := s__law_doors_right) l__law_doors_right c__law_doors_right k__law_doors_right
  have F_law := fun_mk (st := s_law) l_law c_law k_law
  have b_is_from := F_is_from.binds (ps := ["thing", "low", "high"]) fun _ _ _ _ _ _ us hl => match us, hl with | [_, _, _], _ => rfl
  have b_is_passage := F_is_passage.binds (ps := ["holes", "thing"]) fun _ _ _ _ _ _ us hl => match us, hl with | [_, _], _ => rfl
  have b_is_warren := F_is_warren.binds (ps := ["thing"]) fun _ _ _ _ _ _ us hl => match us, hl with | [_], _ => rfl
  have b_good_lot := F_good_lot.binds (ps := ["warren", "thing"]) fun _ _ _ _ _ _ us hl => match us, hl with | [_, _], _ => rfl
  have b_look_warren := F_look_warren.binds (ps := ["warren"]) fun _ _ _ _ _ _ us hl => match us, hl with | [_], _ => rfl
  have b_look_lookers := F_look_lookers.binds (ps := ["lookers"]) fun _ _ _ _ _ _ us hl => match us, hl with | [_], _ => rfl
  have b_look_lot := F_look_lot.binds (ps := ["warren", "lot"]) fun _ _ _ _ _ _ us hl => match us, hl with | [_, _], _ => rfl
  have b_is_lot := F_is_lot.binds (ps := ["warren", "thing"]) fun _ _ _ _ _ _ us hl => match us, hl with | [_, _], _ => rfl
  have b_next_to := F_next_to.binds (ps := ["warren", "hole"]) fun _ _ _ _ _ _ us hl => match us, hl with | [_, _], _ => rfl
  have b_later := F_later.binds (ps := ["warren", "where", "lot"]) fun _ _ _ _ _ _ us hl => match us, hl with | [_, _, _], _ => rfl
  have b_behind := F_behind.binds (ps := ["warren", "where", "lot"]) fun _ _ _ _ _ _ us hl => match us, hl with | [_, _, _], _ => rfl
  have b_shows := F_shows.binds (ps := ["warren", "lookers", "where", "thing"]) fun _ _ _ _ _ _ us hl => match us, hl with | [_, _, _, _], _ => rfl
  have b_to_shut := F_to_shut.binds (ps := ["warren", "lookers"]) fun _ _ _ _ _ _ us hl => match us, hl with | [_, _], _ => rfl
  have b_is_plan := F_is_plan.binds (ps := ["warren", "lookers", "thing"]) fun _ _ _ _ _ _ us hl => match us, hl with | [_, _, _], _ => rfl
  have b_look_all := F_look_all.binds (ps := ["warren", "lookers", "where"]) fun _ _ _ _ _ _ us hl => match us, hl with | [_, _, _], _ => rfl
  have b_surely := F_surely.binds (ps := ["warren", "lookers", "where", "thing"]) fun _ _ _ _ _ _ us hl => match us, hl with | [_, _, _, _], _ => rfl
  have b_fewest_days := F_fewest_days.binds (ps := ["warren", "lookers", "where"]) fun _ _ _ _ _ _ us hl => match us, hl with | [_, _, _], _ => rfl
  have b_three_arms := F_three_arms.binds (ps := ["warren"]) fun _ _ _ _ _ _ us hl => match us, hl with | [_], _ => rfl
  have b_look_plan := F_look_plan.binds (ps := ["warren", "where", "plan"]) fun _ _ _ _ _ _ us hl => match us, hl with | [_, _, _], _ => rfl
  have b_walk := F_walk.binds (ps := ["warren", "where", "plan"]) fun _ _ _ _ _ _ us hl => match us, hl with | [_, _, _], _ => rfl
  have b__law_bag := F__law_bag.binds (ps := ["script", "k"]) fun _ _ _ _ _ _ us hl => match us, hl with | [_, _], _ => rfl
  have b__law_take := F__law_take.binds (ps := ["bag", "count"]) fun _ _ _ _ _ _ us hl => match us, hl with | [_, _], _ => rfl
  have b__law_of := F__law_of.binds (ps := ["bag", "some"]) fun _ _ _ _ _ _ us hl => match us, hl with | [_, _], _ => rfl
  have b__law_warren := F__law_warren.binds (ps := ["bag", "most"]) fun _ _ _ _ _ _ us hl => match us, hl with | [_, _], _ => rfl
  have b__law_near := F__law_near.binds (ps := ["warren", "hole"]) fun _ _ _ _ _ _ us hl => match us, hl with | [_, _], _ => rfl
  have b__law_later := F__law_later.binds (ps := ["warren", "where", "lot"]) fun _ _ _ _ _ _ us hl => match us, hl with | [_, _, _], _ => rfl
  have b__law_is_number := F__law_is_number.binds (ps := ["thing", "low", "high"]) fun _ _ _ _ _ _ us hl => match us, hl with | [_, _, _], _ => rfl
  have b__law_rises := F__law_rises.binds (ps := ["some"]) fun _ _ _ _ _ _ us hl => match us, hl with | [_], _ => rfl
  have b__law_is_warren := F__law_is_warren.binds (ps := ["thing"]) fun _ _ _ _ _ _ us hl => match us, hl with | [_], _ => rfl
  have b__law_is_lot := F__law_is_lot.binds (ps := ["warren", "thing"]) fun _ _ _ _ _ _ us hl => match us, hl with | [_, _], _ => rfl
  have b__law_bent := F__law_bent.binds (ps := ["bag", "thing"]) fun _ _ _ _ _ _ us hl => match us, hl with | [_, _], _ => rfl
  have b__law_kind := F__law_kind.binds (ps := ["way", "one", "two", "three"]) fun _ _ _ _ _ _ us hl => match us, hl with | [_, _, _, _], _ => rfl
  have b__law_doors_right := F__law_doors_right.binds (ps := ["warren"]) fun _ _ _ _ _ _ us hl => match us, hl with | [_], _ => rfl
  have b_law := F_law.binds (ps := ["script"]) fun _ _ _ _ _ _ us hl => match us, hl with | [_], _ => rfl
  exact ⟨PySem.W.fnOf "law" "law" (defArgs s_law) (defBody s_law) (defScope s_law) .none kV_law dc_law pm_law an_law cd_law ct_law, fun s v => .of_eq rfl, fun base _ _ => ok_law (D := ⟨f_is_from, _, F_is_from, PySem.W.mg_of X G a_is_from, b_is_from, f_is_passage, _, F_is_passage, PySem.W.mg_of X G a_is_passage, b_is_passage, f_is_warren, _, F_is_warren, PySem.W.mg_of X G a_is_warren, b_is_warren, f_good_lot, _, F_good_lot, PySem.W.mg_of X G a_good_lot, b_good_lot, f_look_warren, _, F_look_warren, PySem.W.mg_of X G a_look_warren, b_look_warren, f_look_lookers, _, F_look_lookers, PySem.W.mg_of X G a_look_lookers, b_look_lookers, f_look_lot, _, F_look_lot, PySem.W.mg_of X G a_look_lot, b_look_lot, f_is_lot, _, F_is_lot, PySem.W.mg_of X G a_is_lot, b_is_lot, f_next_to, _, F_next_to, PySem.W.mg_of X G a_next_to, b_next_to, f_later, _, F_later, PySem.W.mg_of X G a_later, b_later, f_behind, _, F_behind, PySem.W.mg_of X G a_behind, b_behind, f_shows, _, F_shows, PySem.W.mg_of X G a_shows, b_shows, f_to_shut, _, F_to_shut, PySem.W.mg_of X G a_to_shut, b_to_shut, f_is_plan, _, F_is_plan, PySem.W.mg_of X G a_is_plan, b_is_plan, f_look_all, _, F_look_all, PySem.W.mg_of X G a_look_all, b_look_all, f_surely, _, F_surely, PySem.W.mg_of X G a_surely, b_surely, f_fewest_days, _, F_fewest_days, PySem.W.mg_of X G a_fewest_days, b_fewest_days, f_three_arms, _, F_three_arms, PySem.W.mg_of X G a_three_arms, b_three_arms, f_look_plan, _, F_look_plan, PySem.W.mg_of X G a_look_plan, b_look_plan, f_walk, _, F_walk, PySem.W.mg_of X G a_walk, b_walk, f__law_bag, _, F__law_bag, PySem.W.mg_of X G a__law_bag, b__law_bag, f__law_take, _, F__law_take, PySem.W.mg_of X G a__law_take, b__law_take, f__law_of, _, F__law_of, PySem.W.mg_of X G a__law_of, b__law_of, f__law_warren, _, F__law_warren, PySem.W.mg_of X G a__law_warren, b__law_warren, f__law_near, _, F__law_near, PySem.W.mg_of X G a__law_near, b__law_near, f__law_later, _, F__law_later, PySem.W.mg_of X G a__law_later, b__law_later, f__law_is_number, _, F__law_is_number, PySem.W.mg_of X G a__law_is_number, b__law_is_number, f__law_rises, _, F__law_rises, PySem.W.mg_of X G a__law_rises, b__law_rises, f__law_is_warren, _, F__law_is_warren, PySem.W.mg_of X G a__law_is_warren, b__law_is_warren, f__law_is_lot, _, F__law_is_lot, PySem.W.mg_of X G a__law_is_lot, b__law_is_lot, f__law_bent, _, F__law_bent, PySem.W.mg_of X G a__law_bent, b__law_bent, f__law_kind, _, F__law_kind, PySem.W.mg_of X G a__law_kind, b__law_kind, f__law_doors_right, _, F__law_doors_right, PySem.W.mg_of X G a__law_doors_right, b__law_doors_right, fa, _, F_law, PySem.W.mg_of X G a_law, b_law, _, PySem.W.mg_of X G n_HOLES, _, PySem.W.mg_of X G n_LOOKERS, _, PySem.W.mg_of X G n_DAYS, PySem.W.mg_none_of X G z_all, PySem.W.mg_none_of X G z_any, PySem.W.mg_none_of X G z_bool, PySem.W.mg_none_of X G z_int, PySem.W.mg_none_of X G z_isinstance, PySem.W.mg_none_of X G z_len, PySem.W.mg_none_of X G z_list, PySem.W.mg_none_of X G z_max, PySem.W.mg_none_of X G z_min, PySem.W.mg_none_of X G z_range, PySem.W.mg_none_of X G z_sorted, PySem.W.mg_none_of X G z_tuple, PySem.W.mg_none_of X G z_zip, _, _, _, _, _, ⟨PySem.W.mg_of X G a_NoLookers, q_NoLookers, k_NoLookers, b_NoLookers, t_NoLookers⟩, ⟨PySem.W.mg_of X G a_NoLot, q_NoLot, k_NoLot, b_NoLot, t_NoLot⟩, ⟨PySem.W.mg_of X G a_NoPlan, q_NoPlan, k_NoPlan, b_NoPlan, t_NoPlan⟩, ⟨PySem.W.mg_of X G a_NoWarren, q_NoWarren, k_NoWarren, b_NoWarren, t_NoWarren⟩, _, PySem.W.mg_of X G a_FoxError, ⟨PySem.W.mg_of X G a_NoLookers, PySem.W.mg_of X G a_NoLot, PySem.W.mg_of X G a_NoPlan, PySem.W.mg_of X G a_NoTree, PySem.W.mg_of X G a_NoWarren⟩, kf_all ⟨_, PySem.W.mg_of X G a_NoWarren, PySem.W.exm_ref b_FoxError d_FoxError t_FoxError y_NoWarren, ⟨u_NoWarren, v_NoWarren, b_NoWarren, d_NoWarren, w_NoWarren, x_get, x_tak, m_NoWarren⟩, ⟨false, false, false, false, true, kit_refF d_NoLookers t_NoLookers i_NoWarren_NoLookers s_NoWarren, kit_refF d_NoLot t_NoLot i_NoWarren_NoLot s_NoWarren, kit_refF d_NoPlan t_NoPlan i_NoWarren_NoPlan s_NoWarren, kit_refF d_NoTree t_NoTree i_NoWarren_NoTree s_NoWarren, kit_ref d_NoWarren t_NoWarren s_NoWarren, by decide⟩⟩ ⟨_, PySem.W.mg_of X G a_NoLookers, PySem.W.exm_ref b_FoxError d_FoxError t_FoxError y_NoLookers, ⟨u_NoLookers, v_NoLookers, b_NoLookers, d_NoLookers, w_NoLookers, x_get, x_tak, m_NoLookers⟩, ⟨true, false, false, false, false, kit_ref d_NoLookers t_NoLookers s_NoLookers, kit_refF d_NoLot t_NoLot i_NoLookers_NoLot s_NoLookers, kit_refF d_NoPlan t_NoPlan i_NoLookers_NoPlan s_NoLookers, kit_refF d_NoTree t_NoTree i_NoLookers_NoTree s_NoLookers, kit_refF d_NoWarren t_NoWarren i_NoLookers_NoWarren s_NoLookers, by decide⟩⟩ ⟨_, PySem.W.mg_of X G a_NoLot, PySem.W.exm_ref b_FoxError d_FoxError t_FoxError y_NoLot, ⟨u_NoLot, v_NoLot, b_NoLot, d_NoLot, w_NoLot, x_get, x_tak, m_NoLot⟩, ⟨false, true, false, false, false, kit_refF d_NoLookers t_NoLookers i_NoLot_NoLookers s_NoLot, kit_ref d_NoLot t_NoLot s_NoLot, kit_refF d_NoPlan t_NoPlan i_NoLot_NoPlan s_NoLot, kit_refF d_NoTree t_NoTree i_NoLot_NoTree s_NoLot, kit_refF d_NoWarren t_NoWarren i_NoLot_NoWarren s_NoLot, by decide⟩⟩ ⟨_, PySem.W.mg_of X G a_NoPlan, PySem.W.exm_ref b_FoxError d_FoxError t_FoxError y_NoPlan, ⟨u_NoPlan, v_NoPlan, b_NoPlan, d_NoPlan, w_NoPlan, x_get, x_tak, m_NoPlan⟩, ⟨false, false, true, false, false, kit_refF d_NoLookers t_NoLookers i_NoPlan_NoLookers s_NoPlan, kit_refF d_NoLot t_NoLot i_NoPlan_NoLot s_NoPlan, kit_ref d_NoPlan t_NoPlan s_NoPlan, kit_refF d_NoTree t_NoTree i_NoPlan_NoTree s_NoPlan, kit_refF d_NoWarren t_NoWarren i_NoPlan_NoWarren s_NoPlan, by decide⟩⟩⟩)⟩
theorem sp_start (K : PySem.W.Frag) (H : Hp) (a : Addr) (ns : List Int) (hl : ns.length ≤ 63) (O : Only H) (h : SqL K H a (ns.map V.int)) : spF0 K EW0 false fLaw [.ref a] H (fun v _ => v = .bl true) fun _ _ _ => False := by
  refine ⟨fun _ => False, [.scr ns], fun d => d = .bl true, fun _ => False, fun _ z => z.elim, ?_, ⟨ns, rfl, rfl⟩, fun d v H' e _ r => ?_, fun _ _ z => z.elim⟩
  · refine ⟨_, _, rfl, ⟨a, rfl, ?_⟩, rfl⟩
    rcases h with h | h
    · left
      refine ⟨id, ?_⟩
      rcases h with h | ⟨o, h⟩
      · rcases O a with q | ⟨o, xs, q⟩
        · rw [q] at h; cases h
        · rw [q] at h; cases h
      · exact ⟨o, h⟩
    · exact .inr h
  · subst e
    exact r
end K01
open PySem PySem.W PyProof.Rows
set_option maxHeartbeats 0 in
theorem PySem.Challenge.cw_foxholes_k01_warrens_lots_and_days_known_holds : PySem.Challenge.rw_foxholes_k01_warrens_lots_and_days_known.Holds := by
  w_on; o_law; k_head; (case hw => w_witness2)
  k_fill
  refine L2.walk_ofK (l := PySem.Challenge.rw_foxholes_k01_warrens_lots_and_days_known) (n := 63) (k := 9) (x := "script") (CX := L2.CX0) (sp := fun K => FX.spF0 K FX.EW0 false K01.fLaw) rfl (by decide) rfl ⟨rfl, by decide, by decide⟩ (fun w h Y => PySem.W.kIn_of Y) ?F K01.sp_start (fun _ _ _ _ h => h)
  case F =>
    intro w mg fa h KX G hmg
    refine' K01.all_mk KX G hmg ?a_is_from ?l_is_from ?c_is_from ?k_is_from ?a_is_passage ?l_is_passage ?c_is_passage ?k_is_passage ?a_is_warren ?l_is_warren ?c_is_warren ?k_is_warren ?a_good_lot ?l_good_lot ?c_good_lot ?k_good_lot ?a_look_warren ?l_look_warren ?c_look_warren ?k_look_warren ?a_look_lookers ?l_look_lookers ?c_look_lookers ?k_look_lookers ?a_look_lot ?l_look_lot ?c_look_lot ?k_look_lot ?a_is_lot ?l_is_lot ?c_is_lot ?k_is_lot ?a_next_to ?l_next_to ?c_next_to ?k_next_to ?a_later ?l_later ?c_later ?k_later ?a_behind ?l_behind ?c_behind ?k_behind ?a_shows ?l_shows ?c_shows ?k_shows ?a_to_shut ?l_to_shut ?c_to_shut ?k_to_shut ?a_is_plan ?l_is_plan ?c_is_plan ?k_is_plan ?a_look_all ?l_look_all ?c_look_all ?k_look_all ?a_surely ?l_surely ?c_surely ?k_surely ?a_fewest_days ?l_fewest_days ?c_fewest_days ?k_fewest_days ?a_three_arms ?l_three_arms ?c_three_arms ?k_three_arms ?a_look_plan ?l_look_plan ?c_look_plan ?k_look_plan ?a_walk ?l_walk ?c_walk ?k_walk ?a__law_bag ?l__law_bag ?c__law_bag ?k__law_bag ?a__law_take ?l__law_take ?c__law_take ?k__law_take ?a__law_of ?l__law_of ?c__law_of ?k__law_of ?a__law_warren ?l__law_warren ?c__law_warren ?k__law_warren ?a__law_near ?l__law_near ?c__law_near ?k__law_near ?a__law_later ?l__law_later ?c__law_later ?k__law_later ?a__law_is_number ?l__law_is_number ?c__law_is_number ?k__law_is_number ?a__law_rises ?l__law_rises ?c__law_rises ?k__law_rises ?a__law_is_warren ?l__law_is_warren ?c__law_is_warren ?k__law_is_warren ?a__law_is_lot ?l__law_is_lot ?c__law_is_lot ?k__law_is_lot ?a__law_bent ?l__law_bent ?c__law_bent ?k__law_bent ?a__law_kind ?l__law_kind ?c__law_kind ?k__law_kind ?a__law_doors_right ?l__law_doors_right ?c__law_doors_right ?k__law_doors_right ?a_law ?l_law ?c_law ?k_law ?n_HOLES ?n_LOOKERS ?n_DAYS ?z_all ?z_any ?z_bool ?z_int ?z_isinstance ?z_len ?z_list ?z_max ?z_min ?z_range ?z_sorted ?z_tuple ?z_zip ?a_NoLookers ?a_NoLot ?a_NoPlan ?a_NoTree ?a_NoWarren ?q_NoLookers ?k_NoLookers ?b_NoLookers ?t_NoLookers ?q_NoLot ?k_NoLot ?b_NoLot ?t_NoLot ?q_NoPlan ?k_NoPlan ?b_NoPlan ?t_NoPlan ?q_NoWarren ?k_NoWarren ?b_NoWarren ?t_NoWarren ?a_FoxError ?b_FoxError ?t_FoxError ?d_FoxError ?y_NoWarren ?s_NoWarren ?u_NoWarren ?v_NoWarren ?d_NoWarren ?w_NoWarren ?m_NoWarren ?i_NoWarren_NoLookers ?i_NoWarren_NoLot ?i_NoWarren_NoPlan ?i_NoWarren_NoTree ?y_NoLookers ?s_NoLookers ?u_NoLookers ?v_NoLookers ?d_NoLookers ?w_NoLookers ?m_NoLookers ?i_NoLookers_NoLot ?i_NoLookers_NoPlan ?i_NoLookers_NoTree ?i_NoLookers_NoWarren ?y_NoLot ?s_NoLot ?u_NoLot ?v_NoLot ?d_NoLot ?w_NoLot ?m_NoLot ?i_NoLot_NoLookers ?i_NoLot_NoPlan ?i_NoLot_NoTree ?i_NoLot_NoWarren ?y_NoPlan ?s_NoPlan ?u_NoPlan ?v_NoPlan ?d_NoPlan ?w_NoPlan ?m_NoPlan ?i_NoPlan_NoLookers ?i_NoPlan_NoLot ?i_NoPlan_NoTree ?i_NoPlan_NoWarren ?x_get ?x_tak ?d_NoTree ?t_NoTree
    (case a_is_from => k_is)
    (case l_is_from => k_is)
    (case c_is_from => k_is)
    (case k_is_from => k_is)
    (case a_is_passage => k_is)
    (case l_is_passage => k_is)
    (case c_is_passage => k_is)
    (case k_is_passage => k_is)
    (case a_is_warren => k_is)
    (case l_is_warren => k_is)
    (case c_is_warren => k_is)
    (case k_is_warren => k_is)
    (case a_good_lot => k_is)
    (case l_good_lot => k_is)
    (case c_good_lot => k_is)
    (case k_good_lot => k_is)
    (case a_look_warren => k_is)
    (case l_look_warren => k_is)
    (case c_look_warren => k_is)
    (case k_look_warren => k_is)
    (case a_look_lookers => k_is)
    (case l_look_lookers => k_is)
    (case c_look_lookers => k_is)
    (case k_look_lookers => k_is)
    (case a_look_lot => k_is)
    (case l_look_lot => k_is)
    (case c_look_lot => k_is)
    (case k_look_lot => k_is)
    (case a_is_lot => k_is)
    (case l_is_lot => k_is)
    (case c_is_lot => k_is)
    (case k_is_lot => k_is)
    (case a_next_to => k_is)
    (case l_next_to => k_is)
    (case c_next_to => k_is)
    (case k_next_to => k_is)
    (case a_later => k_is)
    (case l_later => k_is)
    (case c_later => k_is)
    (case k_later => k_is)
    (case a_behind => k_is)
    (case l_behind => k_is)
    (case c_behind => k_is)
    (case k_behind => k_is)
    (case a_shows => k_is)
    (case l_shows => k_is)
    (case c_shows => k_is)
    (case k_shows => k_is)
    (case a_to_shut => k_is)
    (case l_to_shut => k_is)
    (case c_to_shut => k_is)
    (case k_to_shut => k_is)
    (case a_is_plan => k_is)
    (case l_is_plan => k_is)
    (case c_is_plan => k_is)
    (case k_is_plan => k_is)
    (case a_look_all => k_is)
    (case l_look_all => k_is)
    (case c_look_all => k_is)
    (case k_look_all => k_is)
    (case a_surely => k_is)
    (case l_surely => k_is)
    (case c_surely => k_is)
    (case k_surely => k_is)
    (case a_fewest_days => k_is)
    (case l_fewest_days => k_is)
    (case c_fewest_days => k_is)
    (case k_fewest_days => k_is)
    (case a_three_arms => k_is)
    (case l_three_arms => k_is)
    (case c_three_arms => k_is)
    (case k_three_arms => k_is)
    (case a_look_plan => k_is)
    (case l_look_plan => k_is)
    (case c_look_plan => k_is)
    (case k_look_plan => k_is)
    (case a_walk => k_is)
    (case l_walk => k_is)
    (case c_walk => k_is)
    (case k_walk => k_is)
    (case a__law_bag => k_is)
    (case l__law_bag => k_is)
    (case c__law_bag => k_is)
    (case k__law_bag => k_is)
    (case a__law_take => k_is)
    (case l__law_take => k_is)
    (case c__law_take => k_is)
    (case k__law_take => k_is)
    (case a__law_of => k_is)
    (case l__law_of => k_is)
    (case c__law_of => k_is)
    (case k__law_of => k_is)
    (case a__law_warren => k_is)
    (case l__law_warren => k_is)
    (case c__law_warren => k_is)
    (case k__law_warren => k_is)
    (case a__law_near => k_is)
    (case l__law_near => k_is)
    (case c__law_near => k_is)
    (case k__law_near => k_is)
    (case a__law_later => k_is)
    (case l__law_later => k_is)
    (case c__law_later => k_is)
    (case k__law_later => k_is)
    (case a__law_is_number => k_is)
    (case l__law_is_number => k_is)
    (case c__law_is_number => k_is)
    (case k__law_is_number => k_is)
    (case a__law_rises => k_is)
    (case l__law_rises => k_is)
    (case c__law_rises => k_is)
    (case k__law_rises => k_is)
    (case a__law_is_warren => k_is)
    (case l__law_is_warren => k_is)
    (case c__law_is_warren => k_is)
    (case k__law_is_warren => k_is)
    (case a__law_is_lot => k_is)
    (case l__law_is_lot => k_is)
    (case c__law_is_lot => k_is)
    (case k__law_is_lot => k_is)
    (case a__law_bent => k_is)
    (case l__law_bent => k_is)
    (case c__law_bent => k_is)
    (case k__law_bent => k_is)
    (case a__law_kind => k_is)
    (case l__law_kind => k_is)
    (case c__law_kind => k_is)
    (case k__law_kind => k_is)
    (case a__law_doors_right => k_is)
    (case l__law_doors_right => k_is)
    (case c__law_doors_right => k_is)
    (case k__law_doors_right => k_is)
    (case a_law => k_is)
    (case l_law => k_is)
    (case c_law => k_is)
    (case k_law => k_is)
    (case n_HOLES => k_is)
    (case n_LOOKERS => k_is)
    (case n_DAYS => k_is)
    (case z_all => k_is)
    (case z_any => k_is)
    (case z_bool => k_is)
    (case z_int => k_is)
    (case z_isinstance => k_is)
    (case z_len => k_is)
    (case z_list => k_is)
    (case z_max => k_is)
    (case z_min => k_is)
    (case z_range => k_is)
    (case z_sorted => k_is)
    (case z_tuple => k_is)
    (case z_zip => k_is)
    (case a_NoLookers => k_is)
    (case a_NoLot => k_is)
    (case a_NoPlan => k_is)
    (case a_NoTree => k_is)
    (case a_NoWarren => k_is)
    (case q_NoLookers => k_exc)
    (case k_NoLookers => k_is)
    (case b_NoLookers => k_is)
    (case t_NoLookers => k_is)
    (case q_NoLot => k_exc)
    (case k_NoLot => k_is)
    (case b_NoLot => k_is)
    (case t_NoLot => k_is)
    (case q_NoPlan => k_exc)
    (case k_NoPlan => k_is)
    (case b_NoPlan => k_is)
    (case t_NoPlan => k_is)
    (case q_NoWarren => k_exc)
    (case k_NoWarren => k_is)
    (case b_NoWarren => k_is)
    (case t_NoWarren => k_is)
    (case a_FoxError => k_is)
    (case b_FoxError => k_is)
    (case t_FoxError => k_is)
    (case d_FoxError => k_is)
    (case y_NoWarren => k_is)
    (case s_NoWarren => k_is)
    (case u_NoWarren => k_is)
    (case v_NoWarren => k_is)
    (case d_NoWarren => k_is)
    (case w_NoWarren => k_is)
    (case m_NoWarren => k_is)
    (case i_NoWarren_NoLookers => k_is)
    (case i_NoWarren_NoLot => k_is)
    (case i_NoWarren_NoPlan => k_is)
    (case i_NoWarren_NoTree => k_is)
    (case y_NoLookers => k_is)
    (case s_NoLookers => k_is)
    (case u_NoLookers => k_is)
    (case v_NoLookers => k_is)
    (case d_NoLookers => k_is)
    (case w_NoLookers => k_is)
    (case m_NoLookers => k_is)
    (case i_NoLookers_NoLot => k_is)
    (case i_NoLookers_NoPlan => k_is)
    (case i_NoLookers_NoTree => k_is)
    (case i_NoLookers_NoWarren => k_is)
    (case y_NoLot => k_is)
    (case s_NoLot => k_is)
    (case u_NoLot => k_is)
    (case v_NoLot => k_is)
    (case d_NoLot => k_is)
    (case w_NoLot => k_is)
    (case m_NoLot => k_is)
    (case i_NoLot_NoLookers => k_is)
    (case i_NoLot_NoPlan => k_is)
    (case i_NoLot_NoTree => k_is)
    (case i_NoLot_NoWarren => k_is)
    (case y_NoPlan => k_is)
    (case s_NoPlan => k_is)
    (case u_NoPlan => k_is)
    (case v_NoPlan => k_is)
    (case d_NoPlan => k_is)
    (case w_NoPlan => k_is)
    (case m_NoPlan => k_is)
    (case i_NoPlan_NoLookers => k_is)
    (case i_NoPlan_NoLot => k_is)
    (case i_NoPlan_NoTree => k_is)
    (case i_NoPlan_NoWarren => k_is)
    (case x_get => k_is)
    (case x_tak => k_is)
    (case d_NoTree => k_is)
    (case t_NoTree => k_is)
